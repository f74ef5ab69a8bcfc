/- A part of the proofs of the laws of this seat: contracts of the functions that they reach, each proved of the program's form in Lean. No condition beyond those that each contract names. -/
import Derived.Test.YtajbhojompefoaaB0
import Derived.Test.YtajbhojompefoaaB8
set_option linter.unusedVariables false
set_option linter.unusedSimpArgs false
set_option maxRecDepth 20000
set_option maxHeartbeats 4000000
/-! ### Orders and what they keep -/
namespace Go.Abs
open Go.Proofs
/-- aloeswood/seat.members -/
def ir23 : IFn :=
  ⟨21, [(2, none)], (.seq (.ops [⟨(some 2), none, (.mov (.k .nsl))⟩])
  (.seq (.ops [⟨(some 3), none, (.nil 1 3)⟩])
  (.seq (.seq (.ops [⟨(some 4), none, (.mov (.k (.int .i64 0)))⟩])
  (.blk 0 (.loop (.seq (.seq (.ops [⟨(some 5), none, (.mov (.t 0))⟩,
        ⟨(some 6), none, (.mov (.t 4))⟩,
        ⟨(some 7), none, (.bin .shr (.t 5) (.t 6))⟩,
        ⟨(some 8), none, (.bin .gtr (.t 7) (.k (.int .i64 0)))⟩])
      (.cnd (.t 8)
        .skip
        (.exit 0)))
      (.seq (.blk 1 (.seq (.ops [⟨(some 11), none, (.mov (.t 0))⟩,
          ⟨(some 12), none, (.mov (.t 4))⟩,
          ⟨(some 13), none, (.bin .shr (.t 11) (.t 12))⟩,
          ⟨(some 14), none, (.bin .and (.t 13) (.k (.int .i64 1)))⟩,
          ⟨(some 15), none, (.bin .eql (.t 14) (.k (.int .i64 1)))⟩])
        (.cnd (.t 15)
          (.ops [⟨(some 16), none, (.mov (.t 3))⟩,
            ⟨(some 17), none, (.mov (.t 4))⟩,
            ⟨(some 18), none, (.bsl 1 [[(.int .i64 0)]] [(0, (.t 17))])⟩,
            ⟨(some 19), none, (.app 1 8 (.t 16) (.t 18) 3)⟩,
            ⟨(some 3), none, (.mov (.t 19))⟩])
          .skip)))
      (.ops [⟨(some 9), none, (.mov (.t 4))⟩,
        ⟨(some 10), none, (.bin .add (.t 9) (.k (.int .i64 1)))⟩,
        ⟨(some 4), none, (.mov (.t 10))⟩]))))))
  (.seq (.ops [⟨(some 20), none, (.mov (.t 3))⟩,
    ⟨(some 2), none, (.mov (.t 20))⟩])
  .ret))))⟩
def hint23 (P : Program) : Hint := { site := [(19, 3)], nils := [(3, 1)], frz := [], mve := [], wr := [] }

/-- aloeswood/seat.sum -/
def ir30 : IFn :=
  ⟨17, [(2, none)], (.seq (.ops [⟨(some 2), none, (.mov (.k (.int .i64 0)))⟩])
  (.seq (.ops [⟨(some 3), none, (.mov (.k (.int .i64 0)))⟩])
  (.seq (.seq (.ops [⟨(some 6), none, (.mov (.t 0))⟩,
    ⟨(some 7), none, (.len false (.t 6))⟩,
    ⟨(some 8), none, (.mov (.k (.int .i64 0)))⟩])
  (.blk 0 (.loop (.seq (.ops [⟨(some 9), none, (.bin .lss (.t 8) (.t 7))⟩])
      (.seq (.cnd (.t 9)
        .skip
        (.exit 0))
      (.seq (.blk 1 (.seq (.ops [⟨(some 10), none, (.ixA 1 (.t 6) (.t 8))⟩,
          ⟨(some 11), none, (.ld 1 false (.t 10))⟩,
          ⟨(some 5), none, (.mov (.t 11))⟩])
        (.ops [⟨(some 12), none, (.mov (.t 3))⟩,
          ⟨(some 13), none, (.mov (.t 5))⟩,
          ⟨(some 14), none, (.bin .add (.t 12) (.t 13))⟩,
          ⟨(some 3), none, (.mov (.t 14))⟩])))
      (.ops [⟨(some 15), none, (.bin .add (.t 8) (.k (.int .i64 1)))⟩,
        ⟨(some 8), none, (.mov (.t 15))⟩])))))))
  (.seq (.ops [⟨(some 16), none, (.mov (.t 3))⟩,
    ⟨(some 2), none, (.mov (.t 16))⟩])
  .ret))))⟩
def hint30 (P : Program) : Hint := {}

/-- slices.Index[[]int,int] -/
def ir28 : IFn :=
  ⟨19, [(4, none)], (.seq (.ops [⟨(some 4), none, (.mov (.k (.int .i64 0)))⟩])
  (.seq (.seq (.ops [⟨(some 6), none, (.mov (.t 0))⟩,
    ⟨(some 7), none, (.len false (.t 6))⟩,
    ⟨(some 8), none, (.mov (.k (.int .i64 0)))⟩])
  (.blk 0 (.loop (.seq (.ops [⟨(some 9), none, (.bin .lss (.t 8) (.t 7))⟩])
      (.seq (.cnd (.t 9)
        .skip
        (.exit 0))
      (.seq (.blk 1 (.seq (.ops [⟨(some 10), none, (.mov (.t 8))⟩,
          ⟨(some 5), none, (.mov (.t 10))⟩])
        (.seq (.ops [⟨(some 11), none, (.mov (.t 1))⟩,
          ⟨(some 12), none, (.mov (.t 0))⟩,
          ⟨(some 13), none, (.mov (.t 5))⟩,
          ⟨(some 14), none, (.ixA 1 (.t 12) (.t 13))⟩,
          ⟨(some 15), none, (.ld 1 false (.t 14))⟩,
          ⟨(some 16), none, (.bin .eql (.t 11) (.t 15))⟩])
        (.cnd (.t 16)
          (.seq (.ops [⟨(some 17), none, (.mov (.t 5))⟩,
            ⟨(some 4), none, (.mov (.t 17))⟩])
          .ret)
          .skip))))
      (.ops [⟨(some 18), none, (.bin .add (.t 8) (.k (.int .i64 1)))⟩,
        ⟨(some 8), none, (.mov (.t 18))⟩])))))))
  (.seq (.ops [⟨(some 4), none, (.mov (.k (.int .i64 (-1))))⟩])
  .ret)))⟩
def hint28 (P : Program) : Hint := {}

/-- slices.Contains[[]int,int] -/
def ir20 : IFn :=
  ⟨9, [(4, none)], (.seq (.ops [⟨(some 4), none, (.mov (.k (.bool false)))⟩])
  (.seq (.ops [⟨(some 5), none, (.mov (.t 0))⟩,
    ⟨(some 6), none, (.mov (.t 1))⟩,
    ⟨(some 7), none, (.callF 28 [(.t 5), (.t 6)])⟩,
    ⟨(some 8), none, (.bin .geq (.t 7) (.k (.int .i64 0)))⟩,
    ⟨(some 4), none, (.mov (.t 8))⟩])
  .ret))⟩
def hint20 (P : Program) : Hint := {}

/-- aloeswood/seat.seatedOf -/
def ir21 : IFn :=
  ⟨26, [(4, some (3, true))], (.seq (.ops [⟨(some 2), none, (.box 2 (.t 0))⟩,
    ⟨(some 4), none, (.new [.nsl, .nsl, .nsl])⟩])
  (.seq (.ops [⟨(some 8), none, (.mov (.t 1))⟩,
    ⟨(some 9), none, (.len false (.t 8))⟩,
    ⟨(some 10), none, (.mks 1 8 [(.int .i64 0)] (.t 9) (.t 9))⟩,
    ⟨(some 5), none, (.mov (.t 10))⟩])
  (.seq (.seq (.ops [⟨(some 11), none, (.mov (.t 1))⟩,
    ⟨(some 12), none, (.len false (.t 11))⟩,
    ⟨(some 13), none, (.mov (.k (.int .i64 0)))⟩])
  (.blk 0 (.loop (.seq (.ops [⟨(some 14), none, (.bin .lss (.t 13) (.t 12))⟩])
      (.seq (.cnd (.t 14)
        .skip
        (.exit 0))
      (.seq (.blk 1 (.seq (.ops [⟨(some 15), none, (.mov (.t 13))⟩,
          ⟨(some 16), none, (.ixA 1 (.t 11) (.t 13))⟩,
          ⟨(some 17), none, (.ld 1 false (.t 16))⟩,
          ⟨(some 6), none, (.mov (.t 15))⟩,
          ⟨(some 7), none, (.mov (.t 17))⟩])
        (.ops [⟨(some 18), none, (.mov (.t 5))⟩,
          ⟨(some 19), none, (.mov (.t 7))⟩,
          ⟨(some 20), none, (.mov (.t 6))⟩,
          ⟨(some 21), none, (.ixA 1 (.t 18) (.t 19))⟩,
          ⟨none, none, (.st 1 (.t 21) (.t 20))⟩])))
      (.ops [⟨(some 22), none, (.bin .add (.t 13) (.k (.int .i64 1)))⟩,
        ⟨(some 13), none, (.mov (.t 22))⟩])))))))
  (.seq (.seq (.frz (.t 5))
  (.ops [⟨(some 23), none, (.ld 2 true (.t 2))⟩,
    ⟨(some 24), none, (.mov (.t 5))⟩,
    ⟨(some 25), none, (.bld [.nsl, .nsl, .nsl] [(0, 2, (.t 23)), (2, 1, (.t 24))])⟩,
    ⟨none, none, (.st 3 (.t 4) (.t 25))⟩]))
  .ret))))⟩
def hint21 (P : Program) : Hint := { site := [], nils := [], frz := [(25, 5)], mve := [], wr := [] }

/-- (aloeswood/seat.seated).before -/
def ir38 : IFn :=
  ⟨18, [(4, none)], (.seq (.ops [⟨(some 2), none, (.box 3 (.t 0))⟩,
    ⟨(some 3), none, (.box 4 (.t 1))⟩,
    ⟨(some 4), none, (.mov (.k (.bool false)))⟩])
  (.seq (.ops [⟨(some 5), none, (.flA 2 (.t 2))⟩,
    ⟨(some 6), none, (.ld 1 false (.t 5))⟩,
    ⟨(some 7), none, (.flA 1 (.t 3))⟩,
    ⟨(some 8), none, (.ld 1 false (.t 7))⟩,
    ⟨(some 9), none, (.ixA 1 (.t 6) (.t 8))⟩,
    ⟨(some 10), none, (.ld 1 false (.t 9))⟩,
    ⟨(some 11), none, (.flA 2 (.t 2))⟩,
    ⟨(some 12), none, (.ld 1 false (.t 11))⟩,
    ⟨(some 13), none, (.flA 2 (.t 3))⟩,
    ⟨(some 14), none, (.ld 1 false (.t 13))⟩,
    ⟨(some 15), none, (.ixA 1 (.t 12) (.t 14))⟩,
    ⟨(some 16), none, (.ld 1 false (.t 15))⟩,
    ⟨(some 17), none, (.bin .lss (.t 10) (.t 16))⟩,
    ⟨(some 4), none, (.mov (.t 17))⟩])
  .ret))⟩
def hint38 (P : Program) : Hint := {}

/-- (aloeswood/seat.seated).beside -/
def ir39 : IFn :=
  ⟨33, [(4, none)], (.seq (.ops [⟨(some 2), none, (.box 3 (.t 0))⟩,
    ⟨(some 3), none, (.box 4 (.t 1))⟩,
    ⟨(some 4), none, (.mov (.k (.bool false)))⟩])
  (.seq (.ops [⟨(some 5), none, (.flA 2 (.t 2))⟩,
    ⟨(some 6), none, (.ld 1 false (.t 5))⟩,
    ⟨(some 7), none, (.flA 1 (.t 3))⟩,
    ⟨(some 8), none, (.ld 1 false (.t 7))⟩,
    ⟨(some 9), none, (.ixA 1 (.t 6) (.t 8))⟩,
    ⟨(some 10), none, (.ld 1 false (.t 9))⟩,
    ⟨(some 11), none, (.flA 2 (.t 2))⟩,
    ⟨(some 12), none, (.ld 1 false (.t 11))⟩,
    ⟨(some 13), none, (.flA 2 (.t 3))⟩,
    ⟨(some 14), none, (.ld 1 false (.t 13))⟩,
    ⟨(some 15), none, (.ixA 1 (.t 12) (.t 14))⟩,
    ⟨(some 16), none, (.ld 1 false (.t 15))⟩,
    ⟨(some 17), none, (.bin .sub (.t 10) (.t 16))⟩,
    ⟨(some 18), none, (.flA 2 (.t 2))⟩,
    ⟨(some 19), none, (.ld 1 false (.t 18))⟩,
    ⟨(some 20), none, (.flA 2 (.t 3))⟩,
    ⟨(some 21), none, (.ld 1 false (.t 20))⟩,
    ⟨(some 22), none, (.ixA 1 (.t 19) (.t 21))⟩,
    ⟨(some 23), none, (.ld 1 false (.t 22))⟩,
    ⟨(some 24), none, (.flA 2 (.t 2))⟩,
    ⟨(some 25), none, (.ld 1 false (.t 24))⟩,
    ⟨(some 26), none, (.flA 1 (.t 3))⟩,
    ⟨(some 27), none, (.ld 1 false (.t 26))⟩,
    ⟨(some 28), none, (.ixA 1 (.t 25) (.t 27))⟩,
    ⟨(some 29), none, (.ld 1 false (.t 28))⟩,
    ⟨(some 30), none, (.bin .sub (.t 23) (.t 29))⟩,
    ⟨(some 31), none, (.mxi true (.t 17) (.t 30))⟩,
    ⟨(some 32), none, (.bin .eql (.t 31) (.k (.int .i64 1)))⟩,
    ⟨(some 4), none, (.mov (.t 32))⟩])
  .ret))⟩
def hint39 (P : Program) : Hint := {}

/-- (aloeswood/seat.seated).apart -/
def ir40 : IFn :=
  ⟨9, [(4, none)], (.seq (.ops [⟨(some 2), none, (.box 3 (.t 0))⟩,
    ⟨(some 3), none, (.box 4 (.t 1))⟩,
    ⟨(some 4), none, (.mov (.k (.bool false)))⟩])
  (.seq (.ops [⟨(some 5), none, (.ld 3 true (.t 2))⟩,
    ⟨(some 6), none, (.ld 4 true (.t 3))⟩,
    ⟨(some 7), none, (.callF 39 [(.t 5), (.t 6)])⟩,
    ⟨(some 8), none, (.not (.t 7))⟩,
    ⟨(some 4), none, (.mov (.t 8))⟩])
  .ret))⟩
def hint40 (P : Program) : Hint := {}

/-- (aloeswood/seat.seated).first -/
def ir41 : IFn :=
  ⟨12, [(4, none)], (.seq (.ops [⟨(some 2), none, (.box 3 (.t 0))⟩,
    ⟨(some 3), none, (.box 4 (.t 1))⟩,
    ⟨(some 4), none, (.mov (.k (.bool false)))⟩])
  (.seq (.ops [⟨(some 5), none, (.flA 2 (.t 2))⟩,
    ⟨(some 6), none, (.ld 1 false (.t 5))⟩,
    ⟨(some 7), none, (.flA 1 (.t 3))⟩,
    ⟨(some 8), none, (.ld 1 false (.t 7))⟩,
    ⟨(some 9), none, (.ixA 1 (.t 6) (.t 8))⟩,
    ⟨(some 10), none, (.ld 1 false (.t 9))⟩,
    ⟨(some 11), none, (.bin .eql (.t 10) (.k (.int .i64 0)))⟩,
    ⟨(some 4), none, (.mov (.t 11))⟩])
  .ret))⟩
def hint41 (P : Program) : Hint := {}

/-- (aloeswood/seat.seated).last -/
def ir42 : IFn :=
  ⟨16, [(4, none)], (.seq (.ops [⟨(some 2), none, (.box 3 (.t 0))⟩,
    ⟨(some 3), none, (.box 4 (.t 1))⟩,
    ⟨(some 4), none, (.mov (.k (.bool false)))⟩])
  (.seq (.ops [⟨(some 5), none, (.flA 2 (.t 2))⟩,
    ⟨(some 6), none, (.ld 1 false (.t 5))⟩,
    ⟨(some 7), none, (.flA 1 (.t 3))⟩,
    ⟨(some 8), none, (.ld 1 false (.t 7))⟩,
    ⟨(some 9), none, (.ixA 1 (.t 6) (.t 8))⟩,
    ⟨(some 10), none, (.ld 1 false (.t 9))⟩,
    ⟨(some 11), none, (.flA 2 (.t 2))⟩,
    ⟨(some 12), none, (.ld 1 false (.t 11))⟩,
    ⟨(some 13), none, (.len false (.t 12))⟩,
    ⟨(some 14), none, (.bin .sub (.t 13) (.k (.int .i64 1)))⟩,
    ⟨(some 15), none, (.bin .eql (.t 10) (.t 14))⟩,
    ⟨(some 4), none, (.mov (.t 15))⟩])
  .ret))⟩
def hint42 (P : Program) : Hint := {}

/-- (aloeswood/seat.seated).rank -/
def ir43 : IFn :=
  ⟨47, [(4, none)], (.seq (.ops [⟨(some 2), none, (.box 3 (.t 0))⟩,
    ⟨(some 3), none, (.box 4 (.t 1))⟩,
    ⟨(some 4), none, (.mov (.k (.bool false)))⟩])
  (.seq (.seq (.ops [⟨(some 9), none, (.flA 0 (.t 2))⟩,
    ⟨(some 10), none, (.flA 0 (.t 9))⟩,
    ⟨(some 11), none, (.ld 1 false (.t 10))⟩,
    ⟨(some 12), none, (.len false (.t 11))⟩,
    ⟨(some 13), none, (.mov (.k (.int .i64 0)))⟩])
  (.blk 0 (.loop (.seq (.ops [⟨(some 14), none, (.bin .lss (.t 13) (.t 12))⟩])
      (.seq (.cnd (.t 14)
        .skip
        (.exit 0))
      (.seq (.blk 1 (.seq (.ops [⟨(some 15), none, (.mov (.t 13))⟩,
          ⟨(some 16), none, (.ixA 5 (.t 11) (.t 13))⟩,
          ⟨(some 17), none, (.ld 5 true (.t 16))⟩,
          ⟨(some 6), none, (.new [(.str ByteArray.empty), (.int .i64 0), (.int .i64 0), (.int .i64 0), (.int .i64 0)])⟩,
          ⟨(some 5), none, (.mov (.t 15))⟩,
          ⟨none, none, (.st 5 (.t 6) (.t 17))⟩])
        (.seq (.ops [⟨(some 18), none, (.flA 0 (.t 2))⟩,
          ⟨(some 19), none, (.flA 0 (.t 18))⟩,
          ⟨(some 20), none, (.ld 1 false (.t 19))⟩,
          ⟨(some 21), none, (.len false (.t 20))⟩,
          ⟨(some 22), none, (.mov (.k (.int .i64 0)))⟩])
        (.blk 2 (.loop (.seq (.ops [⟨(some 23), none, (.bin .lss (.t 22) (.t 21))⟩])
            (.seq (.cnd (.t 23)
              .skip
              (.exit 2))
            (.seq (.blk 3 (.seq (.ops [⟨(some 24), none, (.mov (.t 22))⟩,
                ⟨(some 25), none, (.ixA 5 (.t 20) (.t 22))⟩,
                ⟨(some 26), none, (.ld 5 true (.t 25))⟩,
                ⟨(some 8), none, (.new [(.str ByteArray.empty), (.int .i64 0), (.int .i64 0), (.int .i64 0), (.int .i64 0)])⟩,
                ⟨(some 7), none, (.mov (.t 24))⟩,
                ⟨none, none, (.st 5 (.t 8) (.t 26))⟩])
              (.seq (.ops [⟨(some 27), none, (.flA 2 (.t 2))⟩,
                ⟨(some 28), none, (.ld 1 false (.t 27))⟩,
                ⟨(some 29), none, (.mov (.t 5))⟩,
                ⟨(some 30), none, (.ixA 1 (.t 28) (.t 29))⟩,
                ⟨(some 31), none, (.ld 1 false (.t 30))⟩,
                ⟨(some 32), none, (.flA 2 (.t 2))⟩,
                ⟨(some 33), none, (.ld 1 false (.t 32))⟩,
                ⟨(some 34), none, (.mov (.t 7))⟩,
                ⟨(some 35), none, (.ixA 1 (.t 33) (.t 34))⟩,
                ⟨(some 36), none, (.ld 1 false (.t 35))⟩,
                ⟨(some 37), none, (.bin .lss (.t 31) (.t 36))⟩,
                ⟨(some 38), none, (.mov (.t 37))⟩,
                ⟨(some 39), (some (38, true)), (.flA 1 (.t 6))⟩,
                ⟨(some 40), (some (38, true)), (.ld 1 false (.t 39))⟩,
                ⟨(some 41), (some (38, true)), (.flA 1 (.t 8))⟩,
                ⟨(some 42), (some (38, true)), (.ld 1 false (.t 41))⟩,
                ⟨(some 43), (some (38, true)), (.bin .lss (.t 40) (.t 42))⟩,
                ⟨(some 44), none, (.pick (.t 38) (.t 43) (.k (.bool false)))⟩])
              (.cnd (.t 44)
                (.seq (.ops [⟨(some 4), none, (.mov (.k (.bool false)))⟩])
                .ret)
                .skip))))
            (.ops [⟨(some 45), none, (.bin .add (.t 22) (.k (.int .i64 1)))⟩,
              ⟨(some 22), none, (.mov (.t 45))⟩])))))))))
      (.ops [⟨(some 46), none, (.bin .add (.t 13) (.k (.int .i64 1)))⟩,
        ⟨(some 13), none, (.mov (.t 46))⟩])))))))
  (.seq (.ops [⟨(some 4), none, (.mov (.k (.bool true)))⟩])
  .ret)))⟩
def hint43 (P : Program) : Hint := {}

/-- The numbers of a set's bits. -/
def bitsL (set : Nat) (k : Nat) : List Int := ((List.range k).filter (fun i => set.testBit i)).map (fun (i : Nat) => (i : Int))
theorem bitsL_succ (set k : Nat) : bitsL set (k+1) = bitsL set k ++ (if set.testBit k then [(k : Int)] else []) := by
  unfold bitsL
  rw [List.range_succ, List.filter_append, List.map_append]
  by_cases h : set.testBit k <;> simp [h, List.filter_cons]
theorem bitsL_len (set k : Nat) : (bitsL set k).length ≤ k := by
  unfold bitsL; rw [List.length_map]; exact Nat.le_trans (List.length_filter_le _ _) (by simp)
theorem bitsL_high {set k n : Nat} (h : set >>> k = 0) (hn : k ≤ n) : bitsL set n = bitsL set k := by
  induction n with
  | zero => rw [show k = 0 by omega]
  | succ n ih =>
    by_cases hkn : k = n + 1
    · rw [hkn]
    · rw [bitsL_succ, ih (by omega), if_neg, List.append_nil]
      have : set >>> n = 0 := by rw [show n = k + (n - k) by omega, Nat.shiftRight_add, h, Nat.zero_shiftRight]
      simp [Nat.testBit, this]
theorem bitsL_mem {set k : Nat} {x : Int} (h : x ∈ bitsL set k) : 0 ≤ x ∧ x < k := by
  unfold bitsL at h
  obtain ⟨i, hi, rfl⟩ := List.mem_map.1 h
  have := List.mem_range.1 (List.mem_filter.1 hi).1
  omega
abbrev membersL (set : Nat) : List Int := bitsL set 62
theorem members_c (set : Nat) (hs : set < 2 ^ 62) : Fn0 Try.prog 23 [.int .i64 set] (fun v => v = .slc 1 (iR (membersL set)) .non) := by
  refine RawC.walk (H := hint23 Try.prog) ir23 Try.func23 rfl rfl rfl ?_
  unfold ir23
  repeat' (first
    | with_reducible (first | refine Rd.p ?_ | refine zE ?_ | refine zE0 ?_)
    | with_reducible (first | refine zI fun y hy => ?_ | refine zL ?_ | refine zS ?_ | refine zA fun _ => ?_ | refine zV ?_ | refine zC ?_ | refine zG ?_ | refine zU ?_ | refine zG0 ?_ | refine zU0 ?_ | refine zF ?_)
    | with_reducible (first | refine zX ?_ | refine zD fun _ => ?_ | refine zD0 ?_ | refine zN ?_ | refine zF0 ?_ | refine zX0 ?_ | refine z1 ?_ | refine z2 ?_ | refine z3 ?_ | refine z4 ?_ | refine z5 ?_ | refine z6 ?_ | refine z7 ?_ | refine z8 ?_ | refine y1 ?_ | refine y2 ?_ | refine y3 ?_ | refine y4 ?_ | refine y5 ?_ | refine y6 ?_ | refine y7 ?_ | refine y8 ?_ | refine Rt.p (fun _ => ?_) fun _ => ?_)
    | ((with_reducible apply w_ixM); (focus exact rfl); (focus exact rfl); case' hk => intro y hy) | ((with_reducible (first | apply w_val | apply q_ends)); (focus exact rfl)))
  refine w_loopK [0] [] (fun x : Nat × Nat => x.1 ≤ 62) (fun x => 62 - x.1) (fun x => [(4, .int .i64 x.1), (3, .slc 1 (iR (bitsL set x.1)) (.own 3 x.2))]) (fun x => [(3, (x.2, .row []))]) (0, _) (by simp) ⟨rfl, rfl, trivial⟩ ⟨rfl, trivial⟩ ?_
  rintro ⟨k, g⟩ hk e σ
  dsimp only at hk ⊢
  have hl := bitsL_len set k
  have h0 := fdiv_pow set k (by omega)
  have h1 : bitV .and .i64 ((set >>> k : Nat) : Int) ((1 : Nat) : Int) = ((set >>> k &&& 1 : Nat) : Int) := and_nat _ 1 (Nat.lt_of_le_of_lt (Nat.shiftRight_le _ _) hs) (by decide)
  rw [Nat.and_one_is_mod] at h1
  have e2 : set.testBit k = decide (set >>> k % 2 = 1) := by simp [Nat.testBit, Nat.and_comm, Nat.and_one_is_mod]
  have hk2 : 0 < ((set >>> k : Nat) : Int) → k < 62 := fun h => by
    refine Decidable.byContradiction fun hc => ?_
    obtain rfl : k = 62 := by omega
    rw [Nat.shiftRight_eq_div_pow, Nat.div_eq_of_lt hs] at h
    omega
  repeat' (first
    | with_reducible (first | refine Rd.p ?_ | refine zE ?_ | refine zE0 ?_)
    | with_reducible (first | refine zI fun y hy => ?_ | refine zL ?_ | refine zS ?_ | refine zA fun _ => ?_ | refine zV ?_ | refine zC ?_ | refine zG ?_ | refine zU ?_ | refine zG0 ?_ | refine zU0 ?_ | refine zF ?_)
    | with_reducible (first | refine zX ?_ | refine zD fun _ => ?_ | refine zD0 ?_ | refine zN ?_ | refine zF0 ?_ | refine zX0 ?_ | refine z1 ?_ | refine z2 ?_ | refine z3 ?_ | refine z4 ?_ | refine z5 ?_ | refine z6 ?_ | refine z7 ?_ | refine z8 ?_ | refine y1 ?_ | refine y2 ?_ | refine y3 ?_ | refine y4 ?_ | refine y5 ?_ | refine y6 ?_ | refine y7 ?_ | refine y8 ?_ | refine Rt.p (fun _ => ?_) fun _ => ?_)
    | ((with_reducible apply w_ixM); (focus exact rfl); (focus exact rfl); case' hk => intro y hy) | ((with_reducible (first | apply w_val | apply q_ends)); (focus exact rfl)))
  · rename_i h2 h3 _
    rw [h0] at h2 h3
    have := hk2 h2
    have hS : bitsL set (k + 1) = bitsL set k ++ [(k : Int)] := by
      rw [bitsL_succ, if_pos (by rw [e2]; exact decide_eq_true (by have : bitV .and .i64 ((set >>> k : Nat) : Int) 1 = _ := h1; rw [this] at h3; exact_mod_cast h3))]
    refine zQ (k + 1, _) ?_ ?_
    · dsimp only; omega
    · dsimp only; omega
  · rename_i h2 h3
    rw [h0] at h2 h3
    have := hk2 h2
    have hS : bitsL set (k + 1) = bitsL set k := by
      have hd : bitV .and .i64 ((set >>> k : Nat) : Int) 1 = ((set >>> k % 2 : Nat) : Int) := h1
      rw [hd] at h3
      have h4 : ¬ set >>> k % 2 = 1 := fun h => h3 (by rw [h]; rfl)
      rw [bitsL_succ, if_neg (by rw [e2, decide_eq_false h4]; simp), List.append_nil]
    refine zQ (k + 1, _) ?_ ?_
    · dsimp only; omega
    · dsimp only; omega
  · rename_i h2
    rw [h0] at h2
    refine congrArg (fun l => AV.slc 1 (iR l) .non) ?_
    have h3 : set >>> k = 0 := by generalize set >>> k = q at h2 ⊢; omega
    exact (bitsL_high h3 hk).symm
theorem sum2_c (a b : Int) (h1 : -1000000 ≤ a ∧ a ≤ 1000000) (h2 : -1000000 ≤ b ∧ b ≤ 1000000) : Fn0 Try.prog 30 [.slc 1 (iR [a, b]) .non] (fun v => v = .int .i64 (a + b)) := by
  refine RawC.walk (H := hint30 Try.prog) ir30 Try.func30 rfl rfl rfl ?_
  unfold ir30
  repeat' (first
    | with_reducible (first | refine Rd.p ?_ | refine zE ?_ | refine zE0 ?_)
    | with_reducible (first | refine zI fun y hy => ?_ | refine zL ?_ | refine zS ?_ | refine zA fun _ => ?_ | refine zV ?_ | refine zC ?_ | refine zG ?_ | refine zU ?_ | refine zG0 ?_ | refine zU0 ?_ | refine zF ?_)
    | with_reducible (first | refine zX ?_ | refine zD fun _ => ?_ | refine zD0 ?_ | refine zN ?_ | refine zF0 ?_ | refine zX0 ?_ | refine z1 ?_ | refine z2 ?_ | refine z3 ?_ | refine z4 ?_ | refine z5 ?_ | refine z6 ?_ | refine z7 ?_ | refine z8 ?_ | refine y1 ?_ | refine y2 ?_ | refine y3 ?_ | refine y4 ?_ | refine y5 ?_ | refine y6 ?_ | refine y7 ?_ | refine y8 ?_ | refine Rt.p (fun _ => ?_) fun _ => ?_)
    | ((with_reducible apply w_ixM); (focus exact rfl); (focus exact rfl); case' hk => intro y hy) | ((with_reducible (first | apply w_val | apply q_ends)); (focus exact rfl)))
  refine w_loopK [6, 7] [] (fun x : Nat × Int => (x.1 = 0 ∧ x.2 = 0) ∨ (x.1 = 1 ∧ x.2 = a) ∨ (x.1 = 2 ∧ x.2 = a + b)) (fun x => 2 - x.1) (fun x => [(8, .int .i64 x.1), (3, .int .i64 x.2)]) (fun _ => []) (0, 0) (.inl ⟨rfl, rfl⟩) ⟨rfl, rfl, trivial⟩ trivial ?_
  rintro ⟨k, s⟩ hk e σ
  dsimp only at hk ⊢
  have hl : [a, b] = [] ++ a :: [b] := rfl
  have hl2 : [a, b] = [a] ++ b :: [] := rfl
  have hl3 : [a, b].length = 2 := rfl
  rcases hk with ⟨rfl, rfl⟩ | ⟨rfl, rfl⟩ | ⟨rfl, rfl⟩
  · repeat' (first
      | with_reducible (first | refine Rd.p ?_ | refine zE ?_ | refine zE0 ?_)
      | (refine w_ixP hl rfl rfl ?_)
      | with_reducible (first | refine zI fun y hy => ?_ | refine zL ?_ | refine zS ?_ | refine zA fun _ => ?_ | refine zV ?_ | refine zC ?_ | refine zG ?_ | refine zU ?_ | refine zG0 ?_ | refine zU0 ?_ | refine zF ?_)
      | with_reducible (first | refine zX ?_ | refine zD fun _ => ?_ | refine zD0 ?_ | refine zN ?_ | refine zF0 ?_ | refine zX0 ?_ | refine z1 ?_ | refine z2 ?_ | refine z3 ?_ | refine z4 ?_ | refine z5 ?_ | refine z6 ?_ | refine z7 ?_ | refine z8 ?_ | refine y1 ?_ | refine y2 ?_ | refine y3 ?_ | refine y4 ?_ | refine y5 ?_ | refine y6 ?_ | refine y7 ?_ | refine y8 ?_ | refine Rt.p (fun _ => ?_) fun _ => ?_)
      | ((with_reducible apply w_ixM); (focus exact rfl); (focus exact rfl); case' hk => intro y hy) | ((with_reducible (first | apply w_val | apply q_ends)); (focus exact rfl)))
    refine q_loop (1, a) (.inr (.inl ⟨rfl, rfl⟩)) (by dsimp only; omega) ⟨rfl, int_eq (by omega), trivial⟩ trivial ⟨rfl, rfl, trivial⟩ trivial
  · repeat' (first
      | with_reducible (first | refine Rd.p ?_ | refine zE ?_ | refine zE0 ?_)
      | (refine w_ixP hl2 rfl rfl ?_)
      | with_reducible (first | refine zI fun y hy => ?_ | refine zL ?_ | refine zS ?_ | refine zA fun _ => ?_ | refine zV ?_ | refine zC ?_ | refine zG ?_ | refine zU ?_ | refine zG0 ?_ | refine zU0 ?_ | refine zF ?_)
      | with_reducible (first | refine zX ?_ | refine zD fun _ => ?_ | refine zD0 ?_ | refine zN ?_ | refine zF0 ?_ | refine zX0 ?_ | refine z1 ?_ | refine z2 ?_ | refine z3 ?_ | refine z4 ?_ | refine z5 ?_ | refine z6 ?_ | refine z7 ?_ | refine z8 ?_ | refine y1 ?_ | refine y2 ?_ | refine y3 ?_ | refine y4 ?_ | refine y5 ?_ | refine y6 ?_ | refine y7 ?_ | refine y8 ?_ | refine Rt.p (fun _ => ?_) fun _ => ?_)
      | ((with_reducible apply w_ixM); (focus exact rfl); (focus exact rfl); case' hk => intro y hy) | ((with_reducible (first | apply w_val | apply q_ends)); (focus exact rfl)))
    refine q_loop (2, s + b) (.inr (.inr ⟨rfl, rfl⟩)) (by dsimp only; omega) ⟨rfl, rfl, trivial⟩ trivial ⟨rfl, rfl, trivial⟩ trivial
  · repeat' (first
      | with_reducible (first | refine Rd.p ?_ | refine zE ?_ | refine zE0 ?_)
      | with_reducible (first | refine zI fun y hy => ?_ | refine zL ?_ | refine zS ?_ | refine zA fun _ => ?_ | refine zV ?_ | refine zC ?_ | refine zG ?_ | refine zU ?_ | refine zG0 ?_ | refine zU0 ?_ | refine zF ?_)
      | with_reducible (first | refine zX ?_ | refine zD fun _ => ?_ | refine zD0 ?_ | refine zN ?_ | refine zF0 ?_ | refine zX0 ?_ | refine z1 ?_ | refine z2 ?_ | refine z3 ?_ | refine z4 ?_ | refine z5 ?_ | refine z6 ?_ | refine z7 ?_ | refine z8 ?_ | refine y1 ?_ | refine y2 ?_ | refine y3 ?_ | refine y4 ?_ | refine y5 ?_ | refine y6 ?_ | refine y7 ?_ | refine y8 ?_ | refine Rt.p (fun _ => ?_) fun _ => ?_)
      | ((with_reducible apply w_ixM); (focus exact rfl); (focus exact rfl); case' hk => intro y hy) | ((with_reducible (first | apply w_val | apply q_ends)); (focus exact rfl)))
    rfl

def idxF' (g : Int) : Nat → List Int → Int
  | _, [] => -1
  | s, x :: r => if x = g then s else idxF' g (s + 1) r
/-- The place of a number in a list; -1 if there is none. -/
abbrev idxI (l : List Int) (g : Int) : Int := idxF' g 0 l
theorem idxF'_bd (g : Int) : ∀ (s : Nat) (l : List Int), idxF' g s l = -1 ∨ (s ≤ idxF' g s l ∧ idxF' g s l < s + l.length)
  | s, [] => .inl rfl
  | s, x :: r => by
    simp only [idxF', List.length_cons]
    split
    · right; omega
    · have := idxF'_bd g (s + 1) r; omega
theorem index_c (l : List Int) (g : Int) (hl : l.length < 1000000) : Fn0 Try.prog 28 [.slc 1 (iR l) .non, .int .i64 g] (fun v => v = .int .i64 (idxI l g)) := by
  refine RawC.walk (H := hint28 Try.prog) ir28 Try.func28 rfl rfl rfl ?_
  unfold ir28
  repeat' (first
    | with_reducible (first | refine Rd.p ?_ | refine zE ?_ | refine zE0 ?_)
    | with_reducible (first | refine zI fun y hy => ?_ | refine zL ?_ | refine zS ?_ | refine zA fun _ => ?_ | refine zV ?_ | refine zC ?_ | refine zG ?_ | refine zU ?_ | refine zG0 ?_ | refine zU0 ?_ | refine zF ?_)
    | with_reducible (first | refine zX ?_ | refine zD fun _ => ?_ | refine zD0 ?_ | refine zN ?_ | refine zF0 ?_ | refine zX0 ?_ | refine z1 ?_ | refine z2 ?_ | refine z3 ?_ | refine z4 ?_ | refine z5 ?_ | refine z6 ?_ | refine z7 ?_ | refine z8 ?_ | refine y1 ?_ | refine y2 ?_ | refine y3 ?_ | refine y4 ?_ | refine y5 ?_ | refine y6 ?_ | refine y7 ?_ | refine y8 ?_ | refine Rt.p (fun _ => ?_) fun _ => ?_)
    | ((with_reducible apply w_ixM); (focus exact rfl); (focus exact rfl); case' hk => intro y hy) | ((with_reducible (first | apply w_val | apply q_ends)); (focus exact rfl)))
  refine w_loopK [0, 1, 7] [] (fun x : List Int × List Int => l = x.1 ++ x.2 ∧ idxI l g = idxF' g x.1.length x.2) (fun x => x.2.length) (fun x => [(8, .int .i64 x.1.length)]) (fun _ => []) ([], l) ⟨rfl, rfl⟩ ⟨rfl, trivial⟩ trivial ?_
  rintro ⟨pre, post⟩ ⟨hl, hb⟩ e σ
  dsimp only at hl hb ⊢
  have hlen := congrArg List.length hl
  cases post with
  | nil =>
    simp only [List.append_nil, List.length_append, List.length_nil] at hlen
    repeat' (first
      | with_reducible (first | refine Rd.p ?_ | refine zE ?_ | refine zE0 ?_)
      | with_reducible (first | refine zI fun y hy => ?_ | refine zL ?_ | refine zS ?_ | refine zA fun _ => ?_ | refine zV ?_ | refine zC ?_ | refine zG ?_ | refine zU ?_ | refine zG0 ?_ | refine zU0 ?_ | refine zF ?_)
      | with_reducible (first | refine zX ?_ | refine zD fun _ => ?_ | refine zD0 ?_ | refine zN ?_ | refine zF0 ?_ | refine zX0 ?_ | refine z1 ?_ | refine z2 ?_ | refine z3 ?_ | refine z4 ?_ | refine z5 ?_ | refine z6 ?_ | refine z7 ?_ | refine z8 ?_ | refine y1 ?_ | refine y2 ?_ | refine y3 ?_ | refine y4 ?_ | refine y5 ?_ | refine y6 ?_ | refine y7 ?_ | refine y8 ?_ | refine Rt.p (fun _ => ?_) fun _ => ?_)
      | ((with_reducible apply w_ixM); (focus exact rfl); (focus exact rfl); case' hk => intro y hy) | ((with_reducible (first | apply w_val | apply q_ends)); (focus exact rfl)))
    rw [hb]; rfl
  | cons x post =>
    simp only [List.length_append, List.length_cons] at hlen
    simp only [idxF'] at hb
    repeat' (first
      | with_reducible (first | refine Rd.p ?_ | refine zE ?_ | refine zE0 ?_)
      | (refine w_ixP hl rfl rfl ?_)
      | with_reducible (first | refine zI fun y hy => ?_ | refine zL ?_ | refine zS ?_ | refine zA fun _ => ?_ | refine zV ?_ | refine zC ?_ | refine zG ?_ | refine zU ?_ | refine zG0 ?_ | refine zU0 ?_ | refine zF ?_)
      | with_reducible (first | refine zX ?_ | refine zD fun _ => ?_ | refine zD0 ?_ | refine zN ?_ | refine zF0 ?_ | refine zX0 ?_ | refine z1 ?_ | refine z2 ?_ | refine z3 ?_ | refine z4 ?_ | refine z5 ?_ | refine z6 ?_ | refine z7 ?_ | refine z8 ?_ | refine y1 ?_ | refine y2 ?_ | refine y3 ?_ | refine y4 ?_ | refine y5 ?_ | refine y6 ?_ | refine y7 ?_ | refine y8 ?_ | refine Rt.p (fun _ => ?_) fun _ => ?_)
      | ((with_reducible apply w_ixM); (focus exact rfl); (focus exact rfl); case' hk => intro y hy) | ((with_reducible (first | apply w_val | apply q_ends)); (focus exact rfl)))
    · rename_i h
      rw [if_pos h.symm] at hb
      rw [hb]; rfl
    · rename_i h
      rw [if_neg (fun h' => h h'.symm)] at hb
      refine zQ (pre ++ [x], post) ?_ ?_
      · exact ⟨by rw [hl]; simp, by rw [hb, len_snoc]⟩
      · simp
theorem contains_c (l : List Int) (g : Int) (hl : l.length < 1000000) : Fn0 Try.prog 20 [.slc 1 (iR l) .non, .int .i64 g] (fun v => v = .bool (decide (0 ≤ idxI l g))) := by
  refine RawC.walk (H := hint20 Try.prog) ir20 Try.func20 rfl rfl rfl ?_
  unfold ir20
  repeat' (first
    | with_reducible (first | refine Rd.p ?_ | refine zE ?_ | refine zE0 ?_)
    | with_reducible (first | refine zI fun y hy => ?_ | refine zL ?_ | refine zS ?_ | refine zA fun _ => ?_ | refine zV ?_ | refine zC ?_ | refine zG ?_ | refine zU ?_ | refine zG0 ?_ | refine zU0 ?_ | refine zF ?_)
    | ((with_reducible refine acall_id ?_); refine ACall.val (index_c l g hl) rfl rfl ?_)
    | with_reducible (first | refine zX ?_ | refine zD fun _ => ?_ | refine zD0 ?_ | refine zN ?_ | refine zF0 ?_ | refine zX0 ?_ | refine z1 ?_ | refine z2 ?_ | refine z3 ?_ | refine z4 ?_ | refine z5 ?_ | refine z6 ?_ | refine z7 ?_ | refine z8 ?_ | refine y1 ?_ | refine y2 ?_ | refine y3 ?_ | refine y4 ?_ | refine y5 ?_ | refine y6 ?_ | refine y7 ?_ | refine y8 ?_ | refine Rt.p (fun _ => ?_) fun _ => ?_)
    | ((with_reducible apply w_ixM); (focus exact rfl); (focus exact rfl); case' hk => intro y hy) | ((with_reducible (first | apply w_val | apply q_ends)); (focus exact rfl)))
  rfl
/-- The seats of an order's guests. -/
def atF (xs : List Int) : Nat → List Int → List Int
  | _, [] => xs
  | s, g :: r => atF (xs.set g.toNat s) (s + 1) r
abbrev atL (l : List Int) : List Int := atF (List.replicate l.length 0) 0 l
abbrev sA (gs : List Guest) (rs : List Rule) (at' : List Int) : AV := .agg [.slc 5 (gR gs) .non, .slc 4 (rR rs) .non, .slc 1 (iR at') .non]
theorem seatedOf_c (gs : List Guest) (rs : List Rule) (l : List Int) (hl : l.length < 1000) (hm : ∀ i ∈ l, 0 ≤ i ∧ i < l.length) : Fn0 Try.prog 21 [pA gs rs, .slc 1 (iR l) .non] (fun v => v = sA gs rs (atL l)) := by
  refine RawC.walk (H := hint21 Try.prog) ir21 Try.func21 rfl rfl rfl ?_
  unfold ir21
  repeat' (first
    | with_reducible (first | refine Rd.p ?_ | refine zE ?_ | refine zE0 ?_)
    | (refine w_mksI rfl (by omega) ?_; intro _)
    | with_reducible (first | refine zI fun y hy => ?_ | refine zL ?_ | refine zS ?_ | refine zA fun _ => ?_ | refine zV ?_ | refine zC ?_ | refine zG ?_ | refine zU ?_ | refine zG0 ?_ | refine zU0 ?_ | refine zF ?_)
    | with_reducible (first | refine zX ?_ | refine zD fun _ => ?_ | refine zD0 ?_ | refine zN ?_ | refine zF0 ?_ | refine zX0 ?_ | refine z1 ?_ | refine z2 ?_ | refine z3 ?_ | refine z4 ?_ | refine z5 ?_ | refine z6 ?_ | refine z7 ?_ | refine z8 ?_ | refine y1 ?_ | refine y2 ?_ | refine y3 ?_ | refine y4 ?_ | refine y5 ?_ | refine y6 ?_ | refine y7 ?_ | refine y8 ?_ | refine Rt.p (fun _ => ?_) fun _ => ?_)
    | ((with_reducible apply w_ixM); (focus exact rfl); (focus exact rfl); case' hk => intro y hy) | ((with_reducible (first | apply w_val | apply q_ends)); (focus exact rfl)))
  rename_i g2 g4 g10
  refine w_loopK [2, 4, 5, 11, 12] [2, 4] (fun x : List Int × List Int × List Int => l = x.1 ++ x.2.1 ∧ x.2.2.length = l.length ∧ atL l = atF x.2.2 x.1.length x.2.1) (fun x => x.2.1.length) (fun x => [(13, .int .i64 x.1.length)]) (fun x => [(10, (g10, .row (x.2.2.map (AV.int .i64))))]) ([], l, List.replicate l.length 0) ⟨rfl, by simp, rfl⟩ ⟨rfl, trivial⟩ ⟨rfl, trivial⟩ ?_
  rintro ⟨pre, post, xs⟩ ⟨hl, hx, hb⟩ e σ
  dsimp only at hl hx hb ⊢
  have hlen := congrArg List.length hl
  cases post with
  | nil =>
    simp only [List.append_nil, List.length_append, List.length_nil] at hlen
    repeat' (first
      | with_reducible (first | refine Rd.p ?_ | refine zE ?_ | refine zE0 ?_)
      | with_reducible (first | refine zI fun y hy => ?_ | refine zL ?_ | refine zS ?_ | refine zA fun _ => ?_ | refine zV ?_ | refine zC ?_ | refine zG ?_ | refine zU ?_ | refine zG0 ?_ | refine zU0 ?_ | refine zF ?_)
      | (refine w_frzI rfl rfl (by omega) ?_)
      | with_reducible (first | refine zX ?_ | refine zD fun _ => ?_ | refine zD0 ?_ | refine zN ?_ | refine zF0 ?_ | refine zX0 ?_ | refine z1 ?_ | refine z2 ?_ | refine z3 ?_ | refine z4 ?_ | refine z5 ?_ | refine z6 ?_ | refine z7 ?_ | refine z8 ?_ | refine y1 ?_ | refine y2 ?_ | refine y3 ?_ | refine y4 ?_ | refine y5 ?_ | refine y6 ?_ | refine y7 ?_ | refine y8 ?_ | refine Rt.p (fun _ => ?_) fun _ => ?_)
      | ((with_reducible apply w_ixM); (focus exact rfl); (focus exact rfl); case' hk => intro y hy) | ((with_reducible (first | apply w_val | apply q_ends)); (focus exact rfl)))
    rw [hb]; rfl
  | cons x post =>
    simp only [List.length_append, List.length_cons] at hlen
    have hi := hm x (by rw [hl]; simp)
    repeat' (first
      | with_reducible (first | refine Rd.p ?_ | refine zE ?_ | refine zE0 ?_)
      | (refine w_ixP hl rfl rfl ?_)
      | (refine w_stI rfl rfl rfl (by omega) ?_)
      | with_reducible (first | refine zI fun y hy => ?_ | refine zL ?_ | refine zS ?_ | refine zA fun _ => ?_ | refine zV ?_ | refine zC ?_ | refine zG ?_ | refine zU ?_ | refine zG0 ?_ | refine zU0 ?_ | refine zF ?_)
      | with_reducible (first | refine zX ?_ | refine zD fun _ => ?_ | refine zD0 ?_ | refine zN ?_ | refine zF0 ?_ | refine zX0 ?_ | refine z1 ?_ | refine z2 ?_ | refine z3 ?_ | refine z4 ?_ | refine z5 ?_ | refine z6 ?_ | refine z7 ?_ | refine z8 ?_ | refine y1 ?_ | refine y2 ?_ | refine y3 ?_ | refine y4 ?_ | refine y5 ?_ | refine y6 ?_ | refine y7 ?_ | refine y8 ?_ | refine Rt.p (fun _ => ?_) fun _ => ?_)
      | ((with_reducible apply w_ixM); (focus exact rfl); (focus exact rfl); case' hk => intro y hy) | ((with_reducible (first | apply w_val | apply q_ends)); (focus exact rfl)))
    refine zQ (pre ++ [x], post, xs.set (x.toNat * 1) pre.length) ?_ ?_
    · refine ⟨by rw [hl]; simp, by simpa using hx, ?_⟩
      rw [hb, len_snoc, Nat.mul_one]; rfl
    · simp
theorem atF_len : ∀ (l : List Int) (xs : List Int) (s : Nat), (atF xs s l).length = xs.length
  | [], xs, s => rfl
  | g :: r, xs, s => by rw [atF, atF_len r]; simp
/-- Whether a rule is kept, by the guests' seats. -/
def keepsB (gs : List Guest) (xs : List Int) (r : Rule) : Bool :=
  if r.kind = 1 then decide (getI xs r.a < getI xs r.b)
  else if r.kind = 2 then decide (max (getI xs r.a - getI xs r.b) (getI xs r.b - getI xs r.a) = 1)
  else if r.kind = 3 then !decide (max (getI xs r.a - getI xs r.b) (getI xs r.b - getI xs r.a) = 1)
  else if r.kind = 4 then decide (getI xs r.a = 0)
  else if r.kind = 5 then decide (getI xs r.a = xs.length - 1)
  else rankB gs xs
where
  /-- No guest of a lesser rank sits before one of a greater one. -/
  rankB (gs : List Guest) (xs : List Int) : Bool := (List.range gs.length).all fun a => (List.range gs.length).all fun b => !(decide (getI xs a < getI xs b) && decide (rankAt gs a < rankAt gs b))
  rankAt (gs : List Guest) (a : Nat) : Int := ((gs[a]?).map (·.rank)).getD 0
abbrev rankB := keepsB.rankB
abbrev rankAt := keepsB.rankAt
theorem getI_bd {xs : List Int} (hv : ∀ v ∈ xs, 0 ≤ v ∧ v < 1000) (i : Int) : 0 ≤ getI xs i ∧ getI xs i < 1000 := by
  unfold getI
  cases h : xs[i.toNat]? with
  | none => simp
  | some y => exact hv y (List.mem_of_getElem? h)
theorem before_c (gs : List Guest) (rs : List Rule) (xs : List Int) (r : Rule) (ha : 0 ≤ r.a ∧ r.a < xs.length) (hb : 0 ≤ r.b ∧ r.b < xs.length) :
    Fn0 Try.prog 38 [sA gs rs xs, rA r] (fun v => v = .bool (decide (getI xs r.a < getI xs r.b))) := by
  refine RawC.walk (H := hint38 Try.prog) ir38 Try.func38 rfl rfl rfl ?_
  unfold ir38
  repeat' (first
    | with_reducible (first | refine Rd.p ?_ | refine zE ?_ | refine zE0 ?_)
    | with_reducible refine zGi ?_
    | with_reducible (first | refine zI fun y hy => ?_ | refine zL ?_ | refine zS ?_ | refine zA fun _ => ?_ | refine zV ?_ | refine zC ?_ | refine zG ?_ | refine zU ?_ | refine zG0 ?_ | refine zU0 ?_ | refine zF ?_)
    | with_reducible (first | refine zX ?_ | refine zD fun _ => ?_ | refine zD0 ?_ | refine zN ?_ | refine zF0 ?_ | refine zX0 ?_ | refine z1 ?_ | refine z2 ?_ | refine z3 ?_ | refine z4 ?_ | refine z5 ?_ | refine z6 ?_ | refine z7 ?_ | refine z8 ?_ | refine y1 ?_ | refine y2 ?_ | refine y3 ?_ | refine y4 ?_ | refine y5 ?_ | refine y6 ?_ | refine y7 ?_ | refine y8 ?_ | refine Rt.p (fun _ => ?_) fun _ => ?_)
    | ((with_reducible apply w_ixM); (focus exact rfl); (focus exact rfl); case' hk => intro y hy) | ((with_reducible (first | apply w_val | apply q_ends)); (focus exact rfl)))
  rfl
theorem beside_c (gs : List Guest) (rs : List Rule) (xs : List Int) (r : Rule) (ha : 0 ≤ r.a ∧ r.a < xs.length) (hb : 0 ≤ r.b ∧ r.b < xs.length) (hv : ∀ v ∈ xs, 0 ≤ v ∧ v < 1000) :
    Fn0 Try.prog 39 [sA gs rs xs, rA r] (fun v => v = .bool (decide (max (getI xs r.a - getI xs r.b) (getI xs r.b - getI xs r.a) = 1))) := by
  have hva := getI_bd hv r.a
  have hvb := getI_bd hv r.b
  refine RawC.walk (H := hint39 Try.prog) ir39 Try.func39 rfl rfl rfl ?_
  unfold ir39
  repeat' (first
    | with_reducible (first | refine Rd.p ?_ | refine zE ?_ | refine zE0 ?_)
    | with_reducible refine zGi ?_
    | with_reducible (first | refine zI fun y hy => ?_ | refine zL ?_ | refine zS ?_ | refine zA fun _ => ?_ | refine zV ?_ | refine zC ?_ | refine zG ?_ | refine zU ?_ | refine zG0 ?_ | refine zU0 ?_ | refine zF ?_)
    | with_reducible (first | refine zX ?_ | refine zD fun _ => ?_ | refine zD0 ?_ | refine zN ?_ | refine zF0 ?_ | refine zX0 ?_ | refine z1 ?_ | refine z2 ?_ | refine z3 ?_ | refine z4 ?_ | refine z5 ?_ | refine z6 ?_ | refine z7 ?_ | refine z8 ?_ | refine y1 ?_ | refine y2 ?_ | refine y3 ?_ | refine y4 ?_ | refine y5 ?_ | refine y6 ?_ | refine y7 ?_ | refine y8 ?_ | refine Rt.p (fun _ => ?_) fun _ => ?_)
    | ((with_reducible apply w_ixM); (focus exact rfl); (focus exact rfl); case' hk => intro y hy) | ((with_reducible (first | apply w_val | apply q_ends)); (focus exact rfl)))
  rfl
theorem apart_c (gs : List Guest) (rs : List Rule) (xs : List Int) (r : Rule) (ha : 0 ≤ r.a ∧ r.a < xs.length) (hb : 0 ≤ r.b ∧ r.b < xs.length) (hv : ∀ v ∈ xs, 0 ≤ v ∧ v < 1000) :
    Fn0 Try.prog 40 [sA gs rs xs, rA r] (fun v => v = .bool (!decide (max (getI xs r.a - getI xs r.b) (getI xs r.b - getI xs r.a) = 1))) := by
  refine RawC.walk (H := hint40 Try.prog) ir40 Try.func40 rfl rfl rfl ?_
  unfold ir40
  repeat' (first
    | with_reducible (first | refine Rd.p ?_ | refine zE ?_ | refine zE0 ?_)
    | with_reducible (first | refine zI fun y hy => ?_ | refine zL ?_ | refine zS ?_ | refine zA fun _ => ?_ | refine zV ?_ | refine zC ?_ | refine zG ?_ | refine zU ?_ | refine zG0 ?_ | refine zU0 ?_ | refine zF ?_)
    | ((with_reducible refine acall_id ?_); refine ACall.val (beside_c gs rs xs r ha hb hv) rfl rfl ?_)
    | with_reducible (first | refine zX ?_ | refine zD fun _ => ?_ | refine zD0 ?_ | refine zN ?_ | refine zF0 ?_ | refine zX0 ?_ | refine z1 ?_ | refine z2 ?_ | refine z3 ?_ | refine z4 ?_ | refine z5 ?_ | refine z6 ?_ | refine z7 ?_ | refine z8 ?_ | refine y1 ?_ | refine y2 ?_ | refine y3 ?_ | refine y4 ?_ | refine y5 ?_ | refine y6 ?_ | refine y7 ?_ | refine y8 ?_ | refine Rt.p (fun _ => ?_) fun _ => ?_)
    | ((with_reducible apply w_ixM); (focus exact rfl); (focus exact rfl); case' hk => intro y hy) | ((with_reducible (first | apply w_val | apply q_ends)); (focus exact rfl)))
  rfl
theorem first_c (gs : List Guest) (rs : List Rule) (xs : List Int) (r : Rule) (ha : 0 ≤ r.a ∧ r.a < xs.length) :
    Fn0 Try.prog 41 [sA gs rs xs, rA r] (fun v => v = .bool (decide (getI xs r.a = 0))) := by
  refine RawC.walk (H := hint41 Try.prog) ir41 Try.func41 rfl rfl rfl ?_
  unfold ir41
  repeat' (first
    | with_reducible (first | refine Rd.p ?_ | refine zE ?_ | refine zE0 ?_)
    | with_reducible refine zGi ?_
    | with_reducible (first | refine zI fun y hy => ?_ | refine zL ?_ | refine zS ?_ | refine zA fun _ => ?_ | refine zV ?_ | refine zC ?_ | refine zG ?_ | refine zU ?_ | refine zG0 ?_ | refine zU0 ?_ | refine zF ?_)
    | with_reducible (first | refine zX ?_ | refine zD fun _ => ?_ | refine zD0 ?_ | refine zN ?_ | refine zF0 ?_ | refine zX0 ?_ | refine z1 ?_ | refine z2 ?_ | refine z3 ?_ | refine z4 ?_ | refine z5 ?_ | refine z6 ?_ | refine z7 ?_ | refine z8 ?_ | refine y1 ?_ | refine y2 ?_ | refine y3 ?_ | refine y4 ?_ | refine y5 ?_ | refine y6 ?_ | refine y7 ?_ | refine y8 ?_ | refine Rt.p (fun _ => ?_) fun _ => ?_)
    | ((with_reducible apply w_ixM); (focus exact rfl); (focus exact rfl); case' hk => intro y hy) | ((with_reducible (first | apply w_val | apply q_ends)); (focus exact rfl)))
  rfl
theorem last_c (gs : List Guest) (rs : List Rule) (xs : List Int) (r : Rule) (ha : 0 ≤ r.a ∧ r.a < xs.length) (hx : xs.length < 1000) :
    Fn0 Try.prog 42 [sA gs rs xs, rA r] (fun v => v = .bool (decide (getI xs r.a = xs.length - 1))) := by
  refine RawC.walk (H := hint42 Try.prog) ir42 Try.func42 rfl rfl rfl ?_
  unfold ir42
  repeat' (first
    | with_reducible (first | refine Rd.p ?_ | refine zE ?_ | refine zE0 ?_)
    | with_reducible refine zGi ?_
    | with_reducible (first | refine zI fun y hy => ?_ | refine zL ?_ | refine zS ?_ | refine zA fun _ => ?_ | refine zV ?_ | refine zC ?_ | refine zG ?_ | refine zU ?_ | refine zG0 ?_ | refine zU0 ?_ | refine zF ?_)
    | with_reducible (first | refine zX ?_ | refine zD fun _ => ?_ | refine zD0 ?_ | refine zN ?_ | refine zF0 ?_ | refine zX0 ?_ | refine z1 ?_ | refine z2 ?_ | refine z3 ?_ | refine z4 ?_ | refine z5 ?_ | refine z6 ?_ | refine z7 ?_ | refine z8 ?_ | refine y1 ?_ | refine y2 ?_ | refine y3 ?_ | refine y4 ?_ | refine y5 ?_ | refine y6 ?_ | refine y7 ?_ | refine y8 ?_ | refine Rt.p (fun _ => ?_) fun _ => ?_)
    | ((with_reducible apply w_ixM); (focus exact rfl); (focus exact rfl); case' hk => intro y hy) | ((with_reducible (first | apply w_val | apply q_ends)); (focus exact rfl)))
  rfl
theorem rankAt_of {gs : List Guest} {pre post : List Guest} {g : Guest} (h : gs = pre ++ g :: post) : rankAt gs pre.length = g.rank := by
  subst h; simp [rankAt, keepsB.rankAt]
theorem rankB_f {gs : List Guest} {xs : List Int} {a b : Nat} (ha : a < gs.length) (hb : b < gs.length) (h1 : getI xs a < getI xs b) (h2 : rankAt gs a < rankAt gs b) : rankB gs xs = false := by
  rw [show rankB gs xs = keepsB.rankB gs xs from rfl, keepsB.rankB, List.all_eq_false]
  refine ⟨a, List.mem_range.2 ha, ?_⟩
  rw [Bool.not_eq_true, List.all_eq_false]
  exact ⟨b, List.mem_range.2 hb, by simp [h1, h2]⟩
theorem rank_c (gs : List Guest) (rs : List Rule) (xs : List Int) (r : Rule) (hx : xs.length = gs.length) (hx0 : xs.length < 1000) :
    Fn0 Try.prog 43 [sA gs rs xs, rA r] (fun v => v = .bool (rankB gs xs)) := by
  refine RawC.walk (H := hint43 Try.prog) ir43 Try.func43 rfl rfl rfl ?_
  unfold ir43
  repeat' (first
    | with_reducible (first | refine Rd.p ?_ | refine zE ?_ | refine zE0 ?_)
    | with_reducible (first | refine zI fun y hy => ?_ | refine zL ?_ | refine zS ?_ | refine zA fun _ => ?_ | refine zV ?_ | refine zC ?_ | refine zG ?_ | refine zU ?_ | refine zG0 ?_ | refine zU0 ?_ | refine zF ?_)
    | with_reducible (first | refine zX ?_ | refine zD fun _ => ?_ | refine zD0 ?_ | refine zN ?_ | refine zF0 ?_ | refine zX0 ?_ | refine z1 ?_ | refine z2 ?_ | refine z3 ?_ | refine z4 ?_ | refine z5 ?_ | refine z6 ?_ | refine z7 ?_ | refine z8 ?_ | refine y1 ?_ | refine y2 ?_ | refine y3 ?_ | refine y4 ?_ | refine y5 ?_ | refine y6 ?_ | refine y7 ?_ | refine y8 ?_ | refine Rt.p (fun _ => ?_) fun _ => ?_)
    | ((with_reducible apply w_ixM); (focus exact rfl); (focus exact rfl); case' hk => intro y hy) | ((with_reducible (first | apply w_val | apply q_ends)); (focus exact rfl)))
  refine w_loopK [2, 11, 12] [2] (fun x : List Guest × List Guest => gs = x.1 ++ x.2 ∧ ∀ a b : Nat, a < x.1.length → b < gs.length → ¬ (getI xs a < getI xs b ∧ rankAt gs a < rankAt gs b)) (fun x => x.2.length) (fun x => [(13, .int .i64 x.1.length)]) (fun _ => []) ([], gs) ⟨rfl, fun a b h => absurd h (Nat.not_lt_zero _)⟩ ⟨rfl, trivial⟩ trivial ?_
  rintro ⟨pre, post⟩ ⟨hl, hb⟩ e σ
  dsimp only at hl hb ⊢
  have hlen := congrArg List.length hl
  cases post with
  | nil =>
    simp only [List.append_nil, List.length_append, List.length_nil] at hlen
    have hr : rankB gs xs = true := by
      rw [show rankB gs xs = keepsB.rankB gs xs from rfl, keepsB.rankB, List.all_eq_true]
      intro a ha
      rw [List.all_eq_true]
      intro b hb'
      have := hb a b (by rw [← hlen]; exact List.mem_range.1 ha) (List.mem_range.1 hb')
      simp only [Bool.not_eq_true', Bool.and_eq_false_iff, decide_eq_false_iff_not]
      by_cases h1 : getI xs a < getI xs b
      · exact .inr fun h2 => this ⟨h1, h2⟩
      · exact .inl h1
    repeat' (first
      | with_reducible (first | refine Rd.p ?_ | refine zE ?_ | refine zE0 ?_)
      | with_reducible (first | refine zI fun y hy => ?_ | refine zL ?_ | refine zS ?_ | refine zA fun _ => ?_ | refine zV ?_ | refine zC ?_ | refine zG ?_ | refine zU ?_ | refine zG0 ?_ | refine zU0 ?_ | refine zF ?_)
      | with_reducible (first | refine zX ?_ | refine zD fun _ => ?_ | refine zD0 ?_ | refine zN ?_ | refine zF0 ?_ | refine zX0 ?_ | refine z1 ?_ | refine z2 ?_ | refine z3 ?_ | refine z4 ?_ | refine z5 ?_ | refine z6 ?_ | refine z7 ?_ | refine z8 ?_ | refine y1 ?_ | refine y2 ?_ | refine y3 ?_ | refine y4 ?_ | refine y5 ?_ | refine y6 ?_ | refine y7 ?_ | refine y8 ?_ | refine Rt.p (fun _ => ?_) fun _ => ?_)
      | ((with_reducible apply w_ixM); (focus exact rfl); (focus exact rfl); case' hk => intro y hy) | ((with_reducible (first | apply w_val | apply q_ends)); (focus exact rfl)))
    rw [hr]; rfl
  | cons g post =>
    simp only [List.length_append, List.length_cons] at hlen
    have hra := rankAt_of hl
    repeat' (first
      | with_reducible (first | refine Rd.p ?_ | refine zE ?_ | refine zE0 ?_)
      | (refine w_ixP hl rfl rfl ?_)
      | with_reducible (first | refine zI fun y hy => ?_ | refine zL ?_ | refine zS ?_ | refine zA fun _ => ?_ | refine zV ?_ | refine zC ?_ | refine zG ?_ | refine zU ?_ | refine zG0 ?_ | refine zU0 ?_ | refine zF ?_)
      | with_reducible (first | refine zX ?_ | refine zD fun _ => ?_ | refine zD0 ?_ | refine zN ?_ | refine zF0 ?_ | refine zX0 ?_ | refine z1 ?_ | refine z2 ?_ | refine z3 ?_ | refine z4 ?_ | refine z5 ?_ | refine z6 ?_ | refine z7 ?_ | refine z8 ?_ | refine y1 ?_ | refine y2 ?_ | refine y3 ?_ | refine y4 ?_ | refine y5 ?_ | refine y6 ?_ | refine y7 ?_ | refine y8 ?_ | refine Rt.p (fun _ => ?_) fun _ => ?_)
      | ((with_reducible apply w_ixM); (focus exact rfl); (focus exact rfl); case' hk => intro y hy) | ((with_reducible (first | apply w_val | apply q_ends)); (focus exact rfl)))
    rename_i g6
    refine w_loopK [2, 5, 6, 11, 12, 13, 20, 21] [2, 6] (fun x : List Guest × List Guest => gs = x.1 ++ x.2 ∧ ∀ b : Nat, b < x.1.length → ¬ (getI xs pre.length < getI xs b ∧ rankAt gs pre.length < rankAt gs b)) (fun x => x.2.length) (fun x => [(22, .int .i64 x.1.length)]) (fun _ => []) ([], gs) ⟨rfl, fun b h => absurd h (Nat.not_lt_zero _)⟩ ⟨rfl, trivial⟩ trivial ?_
    rintro ⟨pre1, post1⟩ ⟨hl1, hb1⟩ e σ
    dsimp only at hl1 hb1 ⊢
    have hlen1 := congrArg List.length hl1
    cases post1 with
    | nil =>
      simp only [List.append_nil, List.length_append, List.length_nil] at hlen1
      repeat' (first
        | with_reducible (first | refine Rd.p ?_ | refine zE ?_ | refine zE0 ?_)
        | with_reducible (first | refine zI fun y hy => ?_ | refine zL ?_ | refine zS ?_ | refine zA fun _ => ?_ | refine zV ?_ | refine zC ?_ | refine zG ?_ | refine zU ?_ | refine zG0 ?_ | refine zU0 ?_ | refine zF ?_)
        | with_reducible (first | refine zX ?_ | refine zD fun _ => ?_ | refine zD0 ?_ | refine zN ?_ | refine zF0 ?_ | refine zX0 ?_ | refine z1 ?_ | refine z2 ?_ | refine z3 ?_ | refine z4 ?_ | refine z5 ?_ | refine z6 ?_ | refine z7 ?_ | refine z8 ?_ | refine y1 ?_ | refine y2 ?_ | refine y3 ?_ | refine y4 ?_ | refine y5 ?_ | refine y6 ?_ | refine y7 ?_ | refine y8 ?_ | refine Rt.p (fun _ => ?_) fun _ => ?_)
        | ((with_reducible apply w_ixM); (focus exact rfl); (focus exact rfl); case' hk => intro y hy) | ((with_reducible (first | apply w_val | apply q_ends)); (focus exact rfl)))
      refine zQ (pre ++ [g], post) ?_ ?_
      · refine ⟨by rw [hl]; simp, fun a b ha hb' => ?_⟩
        simp only [List.length_append, List.length_cons, List.length_nil] at ha
        by_cases h : a < pre.length
        · exact hb a b h hb'
        · obtain rfl : a = pre.length := by omega
          exact hb1 b (by omega)
      · simp
    | cons y post1 =>
      simp only [List.length_append, List.length_cons] at hlen1
      have hrb := rankAt_of hl1
      repeat' (first
        | with_reducible (first | refine Rd.p ?_ | refine zE ?_ | refine zE0 ?_)
        | with_reducible refine zGi ?_
        | (refine w_ixP hl1 rfl rfl ?_)
        | with_reducible (first | refine zI fun y hy => ?_ | refine zL ?_ | refine zS ?_ | refine zA fun _ => ?_ | refine zV ?_ | refine zC ?_ | refine zG ?_ | refine zU ?_ | refine zG0 ?_ | refine zU0 ?_ | refine zF ?_)
        | with_reducible (first | refine zX ?_ | refine zD fun _ => ?_ | refine zD0 ?_ | refine zN ?_ | refine zF0 ?_ | refine zX0 ?_ | refine z1 ?_ | refine z2 ?_ | refine z3 ?_ | refine z4 ?_ | refine z5 ?_ | refine z6 ?_ | refine z7 ?_ | refine z8 ?_ | refine y1 ?_ | refine y2 ?_ | refine y3 ?_ | refine y4 ?_ | refine y5 ?_ | refine y6 ?_ | refine y7 ?_ | refine y8 ?_ | refine Rt.p (fun _ => ?_) fun _ => ?_)
        | ((with_reducible apply w_ixM); (focus exact rfl); (focus exact rfl); case' hk => intro y hy) | ((with_reducible (first | apply w_val | apply q_ends)); (focus exact rfl)))
      · rename_i h1 h2
        rw [rankB_f (a := pre.length) (b := pre1.length) (by omega) (by omega) h1 (by rw [hra, hrb]; exact h2)]; rfl
      · rename_i h1 h2
        refine zQ (pre1 ++ [y], post1) ?_ ?_
        · refine ⟨by rw [hl1]; simp, fun b hb' => ?_⟩
          simp only [List.length_append, List.length_cons, List.length_nil] at hb'
          by_cases h : b < pre1.length
          · exact hb1 b h
          · obtain rfl : b = pre1.length := by omega
            rw [hra, hrb]; exact fun h => h2 h.2
        · simp
      · rename_i h1
        refine zQ (pre1 ++ [y], post1) ?_ ?_
        · refine ⟨by rw [hl1]; simp, fun b hb' => ?_⟩
          simp only [List.length_append, List.length_cons, List.length_nil] at hb'
          by_cases h : b < pre1.length
          · exact hb1 b h
          · obtain rfl : b = pre1.length := by omega
            exact fun h => h1 h.1
        · simp
end Go.Abs
