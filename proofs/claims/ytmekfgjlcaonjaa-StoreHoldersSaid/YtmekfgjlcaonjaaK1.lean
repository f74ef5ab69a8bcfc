/- A part of the proofs of the laws of this seat: contracts of the functions that they reach, each proved of the program's form in Lean. No condition beyond those that each contract names. -/
import Derived.Test.YtmekfgjlcaonjaaD1
import Derived.Test.YtmekfgjlcaonjaaC3
import Derived.Test.YtmekfgjlcaonjaaC2
import Derived.Test.YtmekfgjlcaonjaaC1
import Derived.Test.YtmekfgjlcaonjaaB
import Derived.Test.YtmekfgjlcaonjaaD8
set_option linter.unusedVariables false
set_option linter.unusedSimpArgs false
set_option maxRecDepth 20000
set_option maxHeartbeats 4000000
namespace Go.Abs
open Go.Proofs
/-- aloeswood/aloeswoodref09.within -/
def ir83 : IFn :=
  ⟨15, [(6, none)], (.seq (.ops [⟨(some 6), none, (.mov (.k (.bool false)))⟩])
  (.seq (.ops [⟨(some 7), none, (.mov (.t 1))⟩,
    ⟨(some 8), none, (.mov (.t 0))⟩,
    ⟨(some 9), none, (.bin .leq (.t 7) (.t 8))⟩,
    ⟨(some 10), none, (.mov (.t 9))⟩,
    ⟨(some 11), (some (10, true)), (.mov (.t 0))⟩,
    ⟨(some 12), (some (10, true)), (.mov (.t 2))⟩,
    ⟨(some 13), (some (10, true)), (.bin .leq (.t 11) (.t 12))⟩,
    ⟨(some 14), none, (.pick (.t 10) (.t 13) (.k (.bool false)))⟩,
    ⟨(some 6), none, (.mov (.t 14))⟩])
  .ret))⟩
def hint83 (P : Program) : Hint := {}
/-- aloeswood/aloeswoodref09.checkDay -/
def ir84 : IFn :=
  ⟨18, [(2, none)], (.seq (.ops [⟨(some 1), none, (.box 2 (.t 0))⟩,
    ⟨(some 2), none, (.mov (.k (.int .i64 0)))⟩])
  (.seq (.seq (.ops [⟨(some 3), none, (.flA 0 (.t 1))⟩,
    ⟨(some 4), none, (.ld 1 false (.t 3))⟩,
    ⟨(some 5), none, (.callF 83 [(.t 4), (.k (.int .i64 0)), (.k (.int .i64 100000))])⟩,
    ⟨(some 6), none, (.not (.t 5))⟩,
    ⟨(some 7), none, (.mov (.t 6))⟩,
    ⟨(some 8), (some (7, false)), (.flA 1 (.t 1))⟩,
    ⟨(some 9), (some (7, false)), (.ld 1 false (.t 8))⟩,
    ⟨(some 10), (some (7, false)), (.callF 83 [(.t 9), (.k (.int .i64 0)), (.k (.int .i64 100000))])⟩,
    ⟨(some 11), (some (7, false)), (.not (.t 10))⟩,
    ⟨(some 12), none, (.pick (.t 7) (.k (.bool true)) (.t 11))⟩])
  (.cnd (.t 12)
    (.seq (.ops [⟨(some 2), none, (.mov (.k (.int .i64 2)))⟩])
    .ret)
    .skip))
  (.seq (.seq (.ops [⟨(some 13), none, (.flA 0 (.t 1))⟩,
    ⟨(some 14), none, (.ld 1 false (.t 13))⟩,
    ⟨(some 15), none, (.flA 1 (.t 1))⟩,
    ⟨(some 16), none, (.ld 1 false (.t 15))⟩,
    ⟨(some 17), none, (.bin .gtr (.t 14) (.t 16))⟩])
  (.cnd (.t 17)
    (.seq (.ops [⟨(some 2), none, (.mov (.k (.int .i64 11)))⟩])
    .ret)
    .skip))
  (.seq (.ops [⟨(some 2), none, (.mov (.k (.int .i64 0)))⟩])
  .ret))))⟩
def hint84 (P : Program) : Hint := {}
/-- aloeswood/aloeswoodref09.dated -/
def ir130 : IFn :=
  ⟨124, [(4, some (3, true)), (5, none)], (.seq (.ops [⟨(some 2), none, (.box 4 (.t 0))⟩,
    ⟨(some 4), none, (.new [.nsl, .nsl, .nsl])⟩,
    ⟨(some 5), none, (.mov (.k (.bool false)))⟩])
  (.seq (.ops [⟨(some 13), none, (.flA 1 (.t 2))⟩,
    ⟨(some 14), none, (.ld 2 true (.t 13))⟩,
    ⟨(some 15), none, (.bsl 2 [[(.int .i64 0), (.int .i64 0)]] [(0, (.t 14))])⟩,
    ⟨(some 6), none, (.mov (.t 15))⟩])
  (.seq (.seq (.ops [⟨(some 7), none, (.mov (.k (.int .i64 0)))⟩])
  (.blk 0 (.loop (.seq (.seq (.ops [⟨(some 16), none, (.mov (.t 7))⟩,
        ⟨(some 17), none, (.mov (.t 1))⟩,
        ⟨(some 18), none, (.len false (.t 17))⟩,
        ⟨(some 19), none, (.bin .lss (.t 16) (.t 18))⟩])
      (.cnd (.t 19)
        .skip
        (.exit 0)))
      (.seq (.blk 1 (.ops [⟨(some 22), none, (.mov (.t 6))⟩,
          ⟨(some 23), none, (.flA 3 (.t 2))⟩,
          ⟨(some 24), none, (.ld 1 false (.t 23))⟩,
          ⟨(some 25), none, (.mov (.t 1))⟩,
          ⟨(some 26), none, (.mov (.t 7))⟩,
          ⟨(some 27), none, (.ixA 1 (.t 25) (.t 26))⟩,
          ⟨(some 28), none, (.ld 1 false (.t 27))⟩,
          ⟨(some 29), none, (.ixA 4 (.t 24) (.t 28))⟩,
          ⟨(some 30), none, (.flA 2 (.t 29))⟩,
          ⟨(some 31), none, (.ld 2 true (.t 30))⟩,
          ⟨(some 32), none, (.bsl 2 [[(.int .i64 0), (.int .i64 0)]] [(0, (.t 31))])⟩,
          ⟨(some 33), none, (.app 2 16 (.t 22) (.t 32) 6)⟩,
          ⟨(some 6), none, (.mov (.t 33))⟩]))
      (.ops [⟨(some 20), none, (.mov (.t 7))⟩,
        ⟨(some 21), none, (.bin .add (.t 20) (.k (.int .i64 1)))⟩,
        ⟨(some 7), none, (.mov (.t 21))⟩]))))))
  (.seq (.ops [⟨(some 34), none, (.mov (.t 6))⟩,
    ⟨(some 35), none, (.len false (.t 34))⟩,
    ⟨(some 37), none, (.mov (.t 6))⟩,
    ⟨(some 38), none, (.len false (.t 37))⟩,
    ⟨(some 36), none, (.mks 1 8 [(.int .i64 0)] (.t 35) (.t 35))⟩,
    ⟨(some 8), none, (.mov (.t 36))⟩,
    ⟨(some 39), none, (.mks 1 8 [(.int .i64 0)] (.t 38) (.t 38))⟩,
    ⟨(some 9), none, (.mov (.t 39))⟩])
  (.seq (.seq (.ops [⟨(some 10), none, (.mov (.k (.int .i64 0)))⟩])
  (.blk 2 (.loop (.seq (.seq (.ops [⟨(some 40), none, (.mov (.t 10))⟩,
        ⟨(some 41), none, (.mov (.t 6))⟩,
        ⟨(some 42), none, (.len false (.t 41))⟩,
        ⟨(some 43), none, (.bin .lss (.t 40) (.t 42))⟩])
      (.cnd (.t 43)
        .skip
        (.exit 2)))
      (.seq (.blk 3 (.seq (.ops [⟨(some 46), none, (.mov (.t 8))⟩,
          ⟨(some 47), none, (.mov (.t 10))⟩,
          ⟨(some 48), none, (.mov (.t 6))⟩,
          ⟨(some 49), none, (.mov (.t 10))⟩,
          ⟨(some 50), none, (.ixA 2 (.t 48) (.t 49))⟩,
          ⟨(some 51), none, (.flA 0 (.t 50))⟩,
          ⟨(some 52), none, (.ld 1 false (.t 51))⟩,
          ⟨(some 53), none, (.ixA 1 (.t 46) (.t 47))⟩,
          ⟨none, none, (.st 1 (.t 53) (.t 52))⟩])
        (.seq (.ops [⟨(some 54), none, (.mov (.t 10))⟩,
          ⟨(some 55), none, (.bin .gtr (.t 54) (.k (.int .i64 0)))⟩])
        (.cnd (.t 55)
          (.ops [⟨(some 56), none, (.mov (.t 8))⟩,
            ⟨(some 57), none, (.mov (.t 10))⟩,
            ⟨(some 58), none, (.mov (.t 8))⟩,
            ⟨(some 59), none, (.mov (.t 10))⟩,
            ⟨(some 60), none, (.ixA 1 (.t 58) (.t 59))⟩,
            ⟨(some 61), none, (.ld 1 false (.t 60))⟩,
            ⟨(some 62), none, (.mov (.t 8))⟩,
            ⟨(some 63), none, (.mov (.t 10))⟩,
            ⟨(some 64), none, (.bin .sub (.t 63) (.k (.int .i64 1)))⟩,
            ⟨(some 65), none, (.ixA 1 (.t 62) (.t 64))⟩,
            ⟨(some 66), none, (.ld 1 false (.t 65))⟩,
            ⟨(some 67), none, (.bin .add (.t 66) (.k (.int .i64 1)))⟩,
            ⟨(some 68), none, (.mxi true (.t 61) (.t 67))⟩,
            ⟨(some 69), none, (.ixA 1 (.t 56) (.t 57))⟩,
            ⟨none, none, (.st 1 (.t 69) (.t 68))⟩])
          .skip))))
      (.ops [⟨(some 44), none, (.mov (.t 10))⟩,
        ⟨(some 45), none, (.bin .add (.t 44) (.k (.int .i64 1)))⟩,
        ⟨(some 10), none, (.mov (.t 45))⟩]))))))
  (.seq (.seq (.ops [⟨(some 70), none, (.mov (.t 6))⟩,
    ⟨(some 71), none, (.len false (.t 70))⟩,
    ⟨(some 72), none, (.bin .sub (.t 71) (.k (.int .i64 1)))⟩,
    ⟨(some 11), none, (.mov (.t 72))⟩])
  (.blk 4 (.loop (.seq (.seq (.ops [⟨(some 73), none, (.mov (.t 11))⟩,
        ⟨(some 74), none, (.bin .geq (.t 73) (.k (.int .i64 0)))⟩])
      (.cnd (.t 74)
        .skip
        (.exit 4)))
      (.seq (.blk 5 (.seq (.ops [⟨(some 77), none, (.mov (.t 9))⟩,
          ⟨(some 78), none, (.mov (.t 11))⟩,
          ⟨(some 79), none, (.mov (.t 6))⟩,
          ⟨(some 80), none, (.mov (.t 11))⟩,
          ⟨(some 81), none, (.ixA 2 (.t 79) (.t 80))⟩,
          ⟨(some 82), none, (.flA 1 (.t 81))⟩,
          ⟨(some 83), none, (.ld 1 false (.t 82))⟩,
          ⟨(some 84), none, (.ixA 1 (.t 77) (.t 78))⟩,
          ⟨none, none, (.st 1 (.t 84) (.t 83))⟩])
        (.seq (.ops [⟨(some 85), none, (.mov (.t 11))⟩,
          ⟨(some 86), none, (.mov (.t 6))⟩,
          ⟨(some 87), none, (.len false (.t 86))⟩,
          ⟨(some 88), none, (.bin .sub (.t 87) (.k (.int .i64 1)))⟩,
          ⟨(some 89), none, (.bin .lss (.t 85) (.t 88))⟩])
        (.cnd (.t 89)
          (.ops [⟨(some 90), none, (.mov (.t 9))⟩,
            ⟨(some 91), none, (.mov (.t 11))⟩,
            ⟨(some 92), none, (.mov (.t 9))⟩,
            ⟨(some 93), none, (.mov (.t 11))⟩,
            ⟨(some 94), none, (.ixA 1 (.t 92) (.t 93))⟩,
            ⟨(some 95), none, (.ld 1 false (.t 94))⟩,
            ⟨(some 96), none, (.mov (.t 9))⟩,
            ⟨(some 97), none, (.mov (.t 11))⟩,
            ⟨(some 98), none, (.bin .add (.t 97) (.k (.int .i64 1)))⟩,
            ⟨(some 99), none, (.ixA 1 (.t 96) (.t 98))⟩,
            ⟨(some 100), none, (.ld 1 false (.t 99))⟩,
            ⟨(some 101), none, (.bin .sub (.t 100) (.k (.int .i64 1)))⟩,
            ⟨(some 102), none, (.mxi false (.t 95) (.t 101))⟩,
            ⟨(some 103), none, (.ixA 1 (.t 90) (.t 91))⟩,
            ⟨none, none, (.st 1 (.t 103) (.t 102))⟩])
          .skip))))
      (.ops [⟨(some 75), none, (.mov (.t 11))⟩,
        ⟨(some 76), none, (.bin .sub (.t 75) (.k (.int .i64 1)))⟩,
        ⟨(some 11), none, (.mov (.t 76))⟩]))))))
  (.seq (.seq (.ops [⟨(some 12), none, (.mov (.k (.int .i64 0)))⟩])
  (.blk 6 (.loop (.seq (.seq (.ops [⟨(some 104), none, (.mov (.t 12))⟩,
        ⟨(some 105), none, (.mov (.t 6))⟩,
        ⟨(some 106), none, (.len false (.t 105))⟩,
        ⟨(some 107), none, (.bin .lss (.t 104) (.t 106))⟩])
      (.cnd (.t 107)
        .skip
        (.exit 6)))
      (.seq (.blk 7 (.seq (.ops [⟨(some 110), none, (.mov (.t 8))⟩,
          ⟨(some 111), none, (.mov (.t 12))⟩,
          ⟨(some 112), none, (.ixA 1 (.t 110) (.t 111))⟩,
          ⟨(some 113), none, (.ld 1 false (.t 112))⟩,
          ⟨(some 114), none, (.mov (.t 9))⟩,
          ⟨(some 115), none, (.mov (.t 12))⟩,
          ⟨(some 116), none, (.ixA 1 (.t 114) (.t 115))⟩,
          ⟨(some 117), none, (.ld 1 false (.t 116))⟩,
          ⟨(some 118), none, (.bin .gtr (.t 113) (.t 117))⟩])
        (.cnd (.t 118)
          (.seq (.ops [⟨(some 119), none, (.bld [.nsl, .nsl, .nsl] [])⟩,
            ⟨none, none, (.st 3 (.t 4) (.t 119))⟩,
            ⟨(some 5), none, (.mov (.k (.bool false)))⟩])
          .ret)
          .skip)))
      (.ops [⟨(some 108), none, (.mov (.t 12))⟩,
        ⟨(some 109), none, (.bin .add (.t 108) (.k (.int .i64 1)))⟩,
        ⟨(some 12), none, (.mov (.t 109))⟩]))))))
  (.seq (.seq (.frz (.t 8))
  (.seq (.frz (.t 9))
  (.ops [⟨(some 120), none, (.mov (.t 1))⟩,
    ⟨(some 121), none, (.mov (.t 8))⟩,
    ⟨(some 122), none, (.mov (.t 9))⟩,
    ⟨(some 123), none, (.bld [.nsl, .nsl, .nsl] [(0, 1, (.t 120)), (1, 1, (.t 121)), (2, 1, (.t 122))])⟩,
    ⟨none, none, (.st 3 (.t 4) (.t 123))⟩,
    ⟨(some 5), none, (.mov (.k (.bool true)))⟩])))
  .ret))))))))⟩
def hint130 (P : Program) : Hint := { site := [(15, 6), (33, 6)], nils := [], frz := [(123, 8), (123, 9)], mve := [], wr := [] }
theorem rwithinK_c (n a b : Int) : Fn0 Try.prog 83 [.int .i64 n, .int .i64 a, .int .i64 b] (fun v => v = .bool (inB n a b)) := by
  refine RawC.walk (H := hint83 Try.prog) ir83 Try.func83 rfl rfl rfl ?_
  unfold ir83
  repeat' (first
    | with_reducible (first | refine Rd.p ?_ | refine w_alt ?_ ?_ | refine zE ?_ | refine zE0 ?_)
    | with_reducible (first | refine zI fun y hy => ?_ | refine zL ?_ | refine zS ?_ | refine zA fun _ => ?_ | refine zV ?_ | refine zC ?_ | refine zG ?_ | refine zU ?_ | refine zG0 ?_ | refine zU0 ?_ | refine zF ?_)
    | with_reducible (first | refine zX ?_ | refine zD fun _ => ?_ | refine zD0 ?_ | refine zN ?_ | refine zF0 ?_ | refine zX0 ?_ | refine z1 ?_ | refine z2 ?_ | refine z3 ?_ | refine z4 ?_ | refine z5 ?_ | refine z6 ?_ | refine z7 ?_ | refine z8 ?_ | refine y1 ?_ | refine y2 ?_ | refine y3 ?_ | refine y4 ?_ | refine y5 ?_ | refine y6 ?_ | refine y7 ?_ | refine y8 ?_ | refine Rt.p (fun _ => ?_) fun _ => ?_)
    | ((with_reducible apply w_ixM); (focus exact rfl); (focus exact rfl); case' hk => intro y hy) | ((with_reducible (first | apply w_val | apply q_ends)); (focus exact rfl)))
  all_goals (refine congrArg AV.bool ?_; unfold inB; first | (symm; rw [decide_eq_true_eq]; omega) | (symm; rw [decide_eq_false_iff_not]; omega) | (simp; omega))
theorem rcheckDay_c (a b : Int) : Fn0 Try.prog 84 [.agg [.int .i64 a, .int .i64 b]] (fun v => v = .int .i64 (dayE a b)) := by
  refine RawC.walk (H := hint84 Try.prog) ir84 Try.func84 rfl rfl rfl ?_
  unfold ir84
  repeat' (first
    | with_reducible (first | refine Rd.p ?_ | refine w_alt ?_ ?_ | refine zE ?_ | refine zE0 ?_)
    | with_reducible (first | refine zI fun y hy => ?_ | refine zL ?_ | refine zS ?_ | refine zA fun _ => ?_ | refine zV ?_ | refine zC ?_ | refine zG ?_ | refine zU ?_ | refine zG0 ?_ | refine zU0 ?_ | refine zF ?_)
    | ((with_reducible refine acall_id ?_); refine ACall.val (rwithinK_c _ _ _) rfl rfl ?_)
    | with_reducible (first | refine zX ?_ | refine zD fun _ => ?_ | refine zD0 ?_ | refine zN ?_ | refine zF0 ?_ | refine zX0 ?_ | refine z1 ?_ | refine z2 ?_ | refine z3 ?_ | refine z4 ?_ | refine z5 ?_ | refine z6 ?_ | refine z7 ?_ | refine z8 ?_ | refine y1 ?_ | refine y2 ?_ | refine y3 ?_ | refine y4 ?_ | refine y5 ?_ | refine y6 ?_ | refine y7 ?_ | refine y8 ?_ | refine Rt.p (fun _ => ?_) fun _ => ?_)
    | ((with_reducible apply w_ixM); (focus exact rfl); (focus exact rfl); case' hk => intro y hy) | ((with_reducible (first | apply w_val | apply q_ends)); (focus exact rfl)))
  all_goals (refine congrArg (AV.int .i64) ?_; unfold dayE; simp_all; try omega)
theorem leB_at (ls : List Lnk) : ∀ (o : List Int) (d : Int) (i : Nat) (y : Int), o[i]? = some y → (d :: leB ls d o).getD (i + 1) 0 = max (lkAt ls y).lo ((d :: leB ls d o).getD i 0 + 1)
  | [], _, i, y, h => by simp at h
  | a :: r, d, 0, y, h => by
    obtain rfl : a = y := by simpa using h
    rfl
  | a :: r, d, i + 1, y, h => by
    have := leB_at ls r (max (lkAt ls a).lo (d + 1)) i y (by simpa using h)
    exact this
theorem leB_len (ls : List Lnk) : ∀ (o : List Int) (d : Int), (leB ls d o).length = o.length
  | [], _ => rfl
  | a :: r, d => by show (leB ls _ r).length + 1 = r.length + 1; rw [leB_len ls r]
theorem leB_bdK (ls : List Lnk) (hh : ∀ i, 0 ≤ (lkAt ls i).lo ∧ (lkAt ls i).lo ≤ 100000) : ∀ (o : List Int) (d : Int), 0 ≤ d ∧ d ≤ 200000 → ∀ i, 0 ≤ (d :: leB ls d o).getD i 0 ∧ (d :: leB ls d o).getD i 0 ≤ 200000 + i
  | o, d, hd, 0 => by simpa using hd
  | [], d, hd, i + 1 => by simp [leB]; omega
  | a :: r, d, hd, i + 1 => by
    have h0 := hh a
    by_cases hm : max (lkAt ls a).lo (d + 1) ≤ 200000
    · have := leB_bdK ls hh r (max (lkAt ls a).lo (d + 1)) ⟨by omega, hm⟩ i
      show 0 ≤ (max (lkAt ls a).lo (d + 1) :: leB ls (max (lkAt ls a).lo (d + 1)) r).getD i 0 ∧ (max (lkAt ls a).lo (d + 1) :: leB ls (max (lkAt ls a).lo (d + 1)) r).getD i 0 ≤ _
      omega
    · have hdd : d = 200000 := by omega
      have key : ∀ (o : List Int) (d : Int) (B : Int), 0 ≤ d → d ≤ B → 100000 ≤ B → ∀ i, 0 ≤ (d :: leB ls d o).getD i 0 ∧ (d :: leB ls d o).getD i 0 ≤ B + i := by
        intro o
        induction o with
        | nil => intro d B h1 h2 h3 i; cases i <;> simp [leB] <;> omega
        | cons a r ih =>
          intro d B h1 h2 h3 i
          cases i with
          | zero => simp; omega
          | succ i =>
            have h4 := hh a
            have := ih (max (lkAt ls a).lo (d + 1)) (B + 1) (by omega) (by omega) (by omega) i
            show 0 ≤ (max (lkAt ls a).lo (d + 1) :: leB ls (max (lkAt ls a).lo (d + 1)) r).getD i 0 ∧ (max (lkAt ls a).lo (d + 1) :: leB ls (max (lkAt ls a).lo (d + 1)) r).getD i 0 ≤ _
            omega
      exact key (a :: r) d 200000 hd.1 hd.2 (by omega) (i + 1)
theorem fitB_at (ls : List Lnk) : ∀ (o : List Int) (d : Int), fitB ls d o = true ↔ ∀ (i : Nat) (y : Int), o[i]? = some y → (d :: leB ls d o).getD (i + 1) 0 ≤ (lkAt ls y).hi
  | [], d => by simp [fitB]
  | a :: r, d => by
    rw [fitB, Bool.and_eq_true, decide_eq_true_iff, fitB_at ls r]
    constructor
    · rintro ⟨h1, h2⟩ i y hy
      cases i with
      | zero =>
        obtain rfl : a = y := by simpa using hy
        exact h1
      | succ i => exact h2 i y (by simpa using hy)
    · intro h
      exact ⟨h 0 a rfl, fun i y hy => h (i + 1) y (by simpa using hy)⟩
theorem latB_at : ∀ (hs : List Int) (i : Nat), i < hs.length → (latB hs).2.getD i 0 = min (hs.getD i 0) ((if i + 1 < hs.length then (latB hs).2.getD (i + 1) 0 else 100001) - 1)
  | [], i, h => by simp at h
  | [a], 0, _ => rfl
  | a :: b :: r, 0, _ => by simp [latB]
  | a :: r, i + 1, h => by
    have := latB_at r i (by simpa using h)
    show (latB r).2.getD i 0 = min (r.getD i 0) ((if i + 1 + 1 < r.length + 1 then (latB r).2.getD (i + 1) 0 else 100001) - 1)
    rw [this]
    by_cases h1 : i + 1 < r.length
    · rw [if_pos h1, if_pos (by omega)]
    · rw [if_neg h1, if_neg (by omega)]
abbrev hisL (c : Chn) (o : List Int) : List Int := c.hi :: o.map fun i => (lkAt c.ls i).hi
theorem latF_B (c : Chn) (o : List Int) : latF c o = (latB (hisL c o)).2 := rfl
theorem latB_bdK : ∀ (hs : List Int), (∀ h ∈ hs, 0 ≤ h ∧ h ≤ 100000) → ∀ i, -(hs.length : Int) ≤ (latB hs).2.getD i 0 ∧ (latB hs).2.getD i 0 ≤ 100000
  | [], _, i => by simp [latB]
  | h :: r, hh, 0 => by
    have h1 := latB_bd r fun x hx => hh x (by simp [hx])
    have h2 := hh h (by simp)
    show -((r.length + 1 : Nat) : Int) ≤ min h ((latB r).1 - 1) ∧ min h ((latB r).1 - 1) ≤ 100000
    omega
  | h :: r, hh, i + 1 => by
    have := latB_bdK r (fun x hx => hh x (by simp [hx])) i
    show -((r.length + 1 : Nat) : Int) ≤ (latB r).2.getD i 0 ∧ (latB r).2.getD i 0 ≤ 100000
    omega
abbrev zrK (k : Nat) : List Int := List.replicate k 0
theorem row_next {xs : List Int} {i : Nat} (h : i < xs.length) (a : Int) (ha : a = xs.getD i 0) : (xs.take i ++ zrK (xs.length - i)).set i a = xs.take (i + 1) ++ zrK (xs.length - (i + 1)) := by
  rw [List.set_append_right _ _ (by rw [List.length_take]; omega), List.length_take, Nat.min_eq_left (by omega), Nat.sub_self, show xs.length - i = (xs.length - (i + 1)) + 1 by omega, zrK, List.replicate_succ, List.set_cons_zero, List.take_succ_eq_append_getElem h, List.append_assoc, ha, List.getD_eq_getElem?_getD, List.getElem?_eq_getElem h]
  rfl
theorem row_prev {ys : List Int} {i : Nat} (h : i < ys.length) (a : Int) (ha : a = ys.getD i 0) : (zrK (i + 1) ++ ys.drop (i + 1)).set i a = zrK i ++ ys.drop i := by
  rw [List.set_append_left _ _ (by simp), zrK, List.replicate_succ', List.set_append_right _ _ (by simp), List.length_replicate, Nat.sub_self, List.set_cons_zero, List.append_assoc, ha, List.getD_eq_getElem?_getD, List.getElem?_eq_getElem h, List.drop_eq_getElem_cons h]
  rfl
theorem getD_set_self {xs : List Int} {i : Nat} (h : i < xs.length) (a : Int) : (xs.set i a).getD i 0 = a := by
  rw [List.getD_eq_getElem?_getD, List.getElem?_set_self (by simpa using h)]; rfl
theorem getD_set_ne {xs : List Int} {i j : Nat} (h : i ≠ j) (a : Int) : (xs.set i a).getD j 0 = xs.getD j 0 := by
  rw [List.getD_eq_getElem?_getD, List.getElem?_set_ne h, ← List.getD_eq_getElem?_getD]
theorem getD_take {xs : List Int} {i j k : Nat} (h : j < i) (h2 : i ≤ xs.length) : (xs.take i ++ zrK k).getD j 0 = xs.getD j 0 := by
  rw [List.getD_eq_getElem?_getD, List.getElem?_append_left (by rw [List.length_take]; omega), List.getElem?_take_of_lt h, ← List.getD_eq_getElem?_getD]
theorem getD_drop {ys : List Int} {i j : Nat} (h : i ≤ j) : (zrK i ++ ys.drop i).getD j 0 = ys.getD j 0 := by
  rw [List.getD_eq_getElem?_getD, List.getElem?_append_right (by simpa using h), List.length_replicate, List.getElem?_drop, show i + (j - i) = j by omega, ← List.getD_eq_getElem?_getD]
def spV (c : Chn) (o : List Int) : List (Int × Int) := (c.lo, c.hi) :: o.map fun i => ((lkAt c.ls i).lo, (lkAt c.ls i).hi)
theorem spV_at {c : Chn} {o : List Int} {i : Nat} {y : Int × Int} (h : (spV c o)[i]? = some y) : (i = 0 ∧ y = (c.lo, c.hi)) ∨ ∃ j z, i = j + 1 ∧ o[j]? = some z ∧ y = ((lkAt c.ls z).lo, (lkAt c.ls z).hi) := by
  cases i with
  | zero => exact .inl ⟨rfl, by simpa [spV] using h.symm⟩
  | succ j =>
    rw [spV, List.getElem?_cons_succ, List.getElem?_map] at h
    cases hz : o[j]? with
    | none => rw [hz] at h; cases h
    | some z => rw [hz] at h; exact .inr ⟨j, z, rfl, hz, by simpa using h.symm⟩
theorem frzL_int {i g : Nat} {c : List AV} : ∀ ys : List Int, frzL i g c (ys.map (AV.int .i64)) = ys.map (AV.int .i64)
  | [] => rfl
  | y :: ys => by rw [List.map_cons, frzL, frzL_int ys]; rfl
def tgS (site : Nat) : Option Nat → Tag
  | none => .full
  | some g => .own site g
def tgX : Option Nat → Nat × Res
  | none => (0, .dead)
  | some g => (g, .row [])
def stV (c : Chn) (o : List Int) : AV := .agg [.slc 1 (iR o) .non, .slc 1 (iR (leO c o)) .non, .slc 1 (iR (latF c o)) .non]
theorem dated_s (c : Chn) (o : List Int) (ok : Okc c) (ho : o.length ≤ 7) (hi : ∀ i ∈ o, 0 ≤ i ∧ i < (c.ls.length : Int)) :
    Fn0 Try.prog 130 [cA c, .slc 1 (iR o) .non] (fun v => v = if fitB c.ls c.lo o = true then .tup [stV c o, .bool true] else .tup [.agg [.nsl, .nsl, .nsl], .bool false]) := by
  have hm := ok.m
  have hlk : ∀ i, 0 ≤ (lkAt c.ls i).lo ∧ (lkAt c.ls i).lo ≤ 100000 ∧ 0 ≤ (lkAt c.ls i).hi ∧ (lkAt c.ls i).hi ≤ 100000 := fun i => by
    unfold lkAt
    cases h : c.ls[i.toNat]? with
    | none => simp
    | some l => exact ok.h l (List.mem_of_getElem? h)
  obtain ⟨S, hS⟩ : ∃ S, S = spV c o := ⟨_, rfl⟩
  have hSl : S.length = o.length + 1 := by rw [hS]; simp [spV]
  obtain ⟨xs, hxs⟩ : ∃ xs, xs = leO c o := ⟨_, rfl⟩
  have hxl : xs.length = S.length := by rw [hxs, hSl, leO, List.length_cons, leB_len]
  obtain ⟨ys, hys⟩ : ∃ ys, ys = latF c o := ⟨_, rfl⟩
  have hyl : ys.length = S.length := by rw [hys, latF_B, latB_len, hSl]; simp
  have hx0 : ∀ (i : Nat) (y : Int × Int), S[i]? = some y → xs.getD i 0 = if i = 0 then y.1 else max y.1 (xs.getD (i - 1) 0 + 1) := fun i y hy => by
    rw [hS] at hy
    rcases spV_at hy with ⟨rfl, rfl⟩ | ⟨j, z, rfl, hz, rfl⟩
    · rw [if_pos rfl, hxs]; rfl
    · rw [if_neg (by omega), hxs]
      exact leB_at c.ls o c.lo j z hz
  have hhis : ∀ (i : Nat) (y : Int × Int), S[i]? = some y → (hisL c o).getD i 0 = y.2 := fun i y hy => by
    rw [hS] at hy
    rcases spV_at hy with ⟨rfl, rfl⟩ | ⟨j, z, rfl, hz, rfl⟩
    · rfl
    · rw [List.getD_eq_getElem?_getD, List.getElem?_cons_succ, List.getElem?_map, hz]; rfl
  have hSb : ∀ (i : Nat) (y : Int × Int), S[i]? = some y → 0 ≤ y.1 ∧ y.1 ≤ 100000 ∧ 0 ≤ y.2 ∧ y.2 ≤ 100000 := fun i y hy => by
    rw [hS] at hy
    rcases spV_at hy with ⟨rfl, rfl⟩ | ⟨j, z, rfl, hz, rfl⟩
    · dsimp only; omega
    · exact hlk z
  have hy0 : ∀ (i : Nat) (y : Int × Int), S[i]? = some y → ys.getD i 0 = if i + 1 < S.length then min y.2 (ys.getD (i + 1) 0 - 1) else y.2 := fun i y hy => by
    have hlt : i < S.length := (List.getElem?_eq_some_iff.1 hy).1
    have h1 := latB_at (hisL c o) i (by simp; omega)
    rw [← latF_B, ← hys, hhis i y hy] at h1
    have hb := hSb i y hy
    rw [h1, show (hisL c o).length = S.length by rw [hSl]; simp]
    split
    · rfl
    · omega
  have hxb : ∀ i, 0 ≤ xs.getD i 0 ∧ xs.getD i 0 ≤ 200000 + i := fun i => by rw [hxs]; exact leB_bdK c.ls (fun i => ⟨(hlk i).1, (hlk i).2.1⟩) o c.lo (by omega) i
  have hyb : ∀ i, -8 ≤ ys.getD i 0 ∧ ys.getD i 0 ≤ 100000 := fun i => by
    have := latB_bdK (hisL c o) (fun h hh => by
      rcases List.mem_cons.1 hh with rfl | hh
      · omega
      · obtain ⟨z, _, rfl⟩ := List.mem_map.1 hh
        have := hlk z; omega) i
    rw [← latF_B, ← hys] at this
    simp only [List.length_cons, List.length_map] at this
    omega
  have hD : DaysOK c := ⟨⟨hm.2.2.2.2, hm.2.2.2.1⟩, fun l hl => (ok.h l hl).2.2.2⟩
  have hfit : fitB c.ls c.lo o = true ↔ ∀ i < S.length, xs.getD i 0 ≤ ys.getD i 0 := by
    constructor
    · intro h i _
      have := (le_lat hD h).get i
      rw [← hxs, ← hys] at this
      unfold getI at this
      simpa [List.getD_eq_getElem?_getD] using this
    · intro h
      rw [fitB_at]
      intro i y hy
      have hlt : i + 1 < S.length := by have := (List.getElem?_eq_some_iff.1 hy).1; omega
      have h1 := h (i + 1) hlt
      have h2 : S[i + 1]? = some ((lkAt c.ls y).lo, (lkAt c.ls y).hi) := by rw [hS, spV, List.getElem?_cons_succ, List.getElem?_map, hy]; rfl
      have h3 := hy0 (i + 1) _ h2
      dsimp only at h3
      have h4 : ys.getD (i + 1) 0 ≤ (lkAt c.ls y).hi := by rw [h3]; split <;> omega
      rw [hxs, leO] at h1
      omega
  obtain ⟨ft, hft⟩ : ∃ ft, ft = fitB c.ls c.lo o := ⟨_, rfl⟩
  have hV : stV c o = .agg [.slc 1 (iR o) .non, .slc 1 (iR xs) .non, .slc 1 (iR ys) .non] := by rw [stV, ← hxs, ← hys]
  rw [hV, ← hft]
  rw [← hft] at hfit
  clear hV hft hhis hxs hys
  have hSp : ∀ p : List Int, (spV c p).length = p.length + 1 := fun p => by simp [spV]
  have hSn : ∀ (p : List Int) (a : Int), spV c (p ++ [a]) = spV c p ++ [((lkAt c.ls a).lo, (lkAt c.ls a).hi)] := fun p a => by simp [spV]
  refine RawC.walk (H := hint130 Try.prog) ir130 Try.func130 rfl rfl rfl ?_
  unfold ir130
  repeat' (first
    | with_reducible (first | refine Rd.p ?_ | refine w_alt ?_ ?_ | refine zE ?_ | refine zE0 ?_)
    | with_reducible (first | refine zI fun y hy => ?_ | refine zL ?_ | refine zS ?_ | refine zA fun _ => ?_ | refine zV ?_ | refine zC ?_ | refine zG ?_ | refine zU ?_ | refine zG0 ?_ | refine zU0 ?_ | refine zF ?_)
    | with_reducible (first | refine zX ?_ | refine zD fun _ => ?_ | refine zD0 ?_ | refine zN ?_ | refine zF0 ?_ | refine zX0 ?_ | refine z1 ?_ | refine z2 ?_ | refine z3 ?_ | refine z4 ?_ | refine z5 ?_ | refine z6 ?_ | refine z7 ?_ | refine z8 ?_ | refine y1 ?_ | refine y2 ?_ | refine y3 ?_ | refine y4 ?_ | refine y5 ?_ | refine y6 ?_ | refine y7 ?_ | refine y8 ?_ | refine Rt.p (fun _ => ?_) fun _ => ?_)
    | ((with_reducible apply w_ixM); (focus exact rfl); (focus exact rfl); case' hk => intro y hy) | ((with_reducible (first | apply w_val | apply q_ends)); (focus exact rfl)))
  rename_i g2 g4
  refine w_loopK [1, 2, 4] [2, 4] (fun x : List Int × List Int × Option Nat => o = x.1 ++ x.2.1) (fun x => x.2.1.length) (fun x => [(7, .int .i64 x.1.length), (6, .slc 2 (sR (spV c x.1)) (tgS 6 x.2.2))]) (fun x => [(6, tgX x.2.2)]) ([], o, none) rfl ⟨rfl, rfl, trivial⟩ (by exact ⟨rfl, trivial⟩) ?_
  rintro ⟨p, q, t⟩ hpq e σ
  dsimp only at hpq ⊢
  have hlen := congrArg List.length hpq
  rw [List.length_append] at hlen
  have hspl := hSp p
  cases q with
  | cons a q =>
    simp only [List.length_cons] at hlen
    have ha := hi a (by rw [hpq]; simp)
    obtain ⟨k, rfl⟩ : ∃ k : Nat, a = k := ⟨a.toNat, by omega⟩
    have hk : k < c.ls.length := by omega
    have hgk : c.ls[k]? = some (lkAt c.ls (k : Int)) := by unfold lkAt; rw [Int.toNat_natCast, List.getElem?_eq_getElem hk]; rfl
    have hsn := hSn p (k : Int)
    generalize lkAt c.ls (k : Int) = lk at *
    generalize spV c p = sp at *
    rcases t with _ | g6
    all_goals
      dsimp only [tgS, tgX]
      repeat' (first
        | with_reducible (first | refine Rd.p ?_ | refine w_alt ?_ ?_ | refine zE ?_ | refine zE0 ?_)
        | (first | refine w_ixP hpq rfl rfl ?_ | refine w_ixE (f := fun g : Lnk => [.int .i64 g.f, .int .i64 g.t, .int .i64 g.lo, .int .i64 g.hi]) hgk rfl rfl ?_)
        | with_reducible (first | refine zI fun y hy => ?_ | refine zL ?_ | refine zS ?_ | refine zA fun _ => ?_ | refine zV ?_ | refine zC ?_ | refine zG ?_ | refine zU ?_ | refine zG0 ?_ | refine zU0 ?_ | refine zF ?_)
        | with_reducible (first | refine zX ?_ | refine zD fun _ => ?_ | refine zD0 ?_ | refine zN ?_ | refine zF0 ?_ | refine zX0 ?_ | refine z1 ?_ | refine z2 ?_ | refine z3 ?_ | refine z4 ?_ | refine z5 ?_ | refine z6 ?_ | refine z7 ?_ | refine z8 ?_ | refine y1 ?_ | refine y2 ?_ | refine y3 ?_ | refine y4 ?_ | refine y5 ?_ | refine y6 ?_ | refine y7 ?_ | refine y8 ?_ | refine Rt.p (fun _ => ?_) fun _ => ?_)
        | ((with_reducible apply w_ixM); (focus exact rfl); (focus exact rfl); case' hk => intro y hy) | ((with_reducible (first | apply w_val | apply q_ends)); (focus exact rfl)))
      refine q_loop (p ++ [(k : Int)], q, some _) (by show o = _; rw [hpq]; simp) (by simp) (slots_cons (by show AV.int .i64 _ = AV.int .i64 _; refine int_eq ?_; simp) (slots_cons (by show _ = AV.slc 2 (sR (spV c (p ++ [(k : Int)]))) _; rw [hsn]; first | exact congrArg (fun z => AV.slc 2 z (Tag.own 6 _)) (List.map_append (f := fun g : Int × Int => [AV.int .i64 g.1, .int .i64 g.2]) (l₁ := sp) (l₂ := [(lk.lo, lk.hi)])).symm | rfl) slots_nil)) (by exact ⟨rfl, trivial⟩) (by repeat' (first | exact kept_nil | apply kept_cons | rfl)) (by repeat' (first | exact kept_nil | apply kept_cons | rfl))
  | nil =>
    rw [List.append_nil] at hpq
    subst hpq
    rw [← hS]
    clear hSp hSn
    have hgS : ∀ i, i < S.length → ∃ y, S[i]? = some y := fun i h => ⟨_, List.getElem?_eq_getElem h⟩
    repeat' (first
      | with_reducible (first | refine Rd.p ?_ | refine w_alt ?_ ?_ | refine zE ?_ | refine zE0 ?_)
      | (refine w_mksI (n := S.length) rfl (by omega) ?_; intro _)
      | with_reducible (first | refine zI fun y hy => ?_ | refine zL ?_ | refine zS ?_ | refine zA fun _ => ?_ | refine zV ?_ | refine zC ?_ | refine zG ?_ | refine zU ?_ | refine zG0 ?_ | refine zU0 ?_ | refine zF ?_)
      | with_reducible (first | refine zX ?_ | refine zD fun _ => ?_ | refine zD0 ?_ | refine zN ?_ | refine zF0 ?_ | refine zX0 ?_ | refine z1 ?_ | refine z2 ?_ | refine z3 ?_ | refine z4 ?_ | refine z5 ?_ | refine z6 ?_ | refine z7 ?_ | refine z8 ?_ | refine y1 ?_ | refine y2 ?_ | refine y3 ?_ | refine y4 ?_ | refine y5 ?_ | refine y6 ?_ | refine y7 ?_ | refine y8 ?_ | refine Rt.p (fun _ => ?_) fun _ => ?_)
      | ((with_reducible apply w_ixM); (focus exact rfl); (focus exact rfl); case' hk => intro y hy) | ((with_reducible (first | apply w_val | apply q_ends)); (focus exact rfl)))
    rename_i g36 g39
    refine w_loopK [1, 4, 6, 8, 9] [4, 39] (fun i : Nat => i ≤ S.length) (fun i => S.length - i) (fun i => [(10, .int .i64 i)]) (fun i => [(36, (g36, .row ((xs.take i ++ zrK (S.length - i)).map (AV.int .i64))))]) 0 (Nat.zero_le _) ⟨rfl, trivial⟩ (by exact ⟨by simp [zrK]; rfl, trivial⟩) ?_
    rintro i hi1 e σ
    try dsimp only at hi1 ⊢
    have hrl : (xs.take i ++ zrK (S.length - i)).length = S.length := by simp; omega
    by_cases hin : i < S.length
    · obtain ⟨y, hy⟩ := hgS i hin
      have hb := hSb i y hy
      have hxi := hx0 i y hy
      have e1 : ((i : Nat) : Int).toNat * 1 = i := by omega
      have hrn := fun a ha => row_next (xs := xs) (i := i) (by omega) a ha
      rw [hxl] at hrn
      have hrs : ∀ a, ((xs.take i ++ zrK (S.length - i)).set (((i : Nat) : Int).toNat * 1) a).length = S.length := fun a => by rw [List.length_set]; exact hrl
      by_cases hi0 : 0 < i
      · have e2 : (((i : Nat) : Int) - 1).toNat * 1 = i - 1 := by omega
        have hv1 : ((xs.take i ++ zrK (S.length - i)).set (((i : Nat) : Int).toNat * 1) y.1).getD (((i : Nat) : Int).toNat * 1) 0 = y.1 := by rw [e1]; exact getD_set_self (by omega) _
        have hv2 : ((xs.take i ++ zrK (S.length - i)).set (((i : Nat) : Int).toNat * 1) y.1).getD ((((i : Nat) : Int) - 1).toNat * 1) 0 = xs.getD (i - 1) 0 := by rw [e1, e2, getD_set_ne (by omega), getD_take (by omega) (by omega)]
        have hpb := hxb (i - 1)
        rw [if_neg (by omega)] at hxi
        repeat' (first
          | with_reducible (first | refine Rd.p ?_ | refine w_alt ?_ ?_ | refine zE ?_ | refine zE0 ?_)
          | (first | refine w_ixE (f := fun g : Int × Int => [.int .i64 g.1, .int .i64 g.2]) hy rfl rfl ?_ | refine w_ldI rfl rfl (by rw [hrs]; omega) ?_ | refine w_stI rfl rfl rfl (by first | (rw [hrs]; omega) | (rw [hrl]; omega)) ?_)
          | with_reducible (first | refine zI fun y hy => ?_ | refine zL ?_ | refine zS ?_ | refine zA fun _ => ?_ | refine zV ?_ | refine zC ?_ | refine zG ?_ | refine zU ?_ | refine zG0 ?_ | refine zU0 ?_ | refine zF ?_)
          | with_reducible (first | refine zX ?_ | refine zD fun _ => ?_ | refine zD0 ?_ | refine zN ?_ | refine zF0 ?_ | refine zX0 ?_ | refine z1 ?_ | refine z2 ?_ | refine z3 ?_ | refine z4 ?_ | refine z5 ?_ | refine z6 ?_ | refine z7 ?_ | refine z8 ?_ | refine y1 ?_ | refine y2 ?_ | refine y3 ?_ | refine y4 ?_ | refine y5 ?_ | refine y6 ?_ | refine y7 ?_ | refine y8 ?_ | refine Rt.p (fun _ => ?_) fun _ => ?_)
          | ((with_reducible apply w_ixM); (focus exact rfl); (focus exact rfl); case' hk => intro y hy) | ((with_reducible (first | apply w_val | apply q_ends)); (focus exact rfl)))
        all_goals first
          | (exfalso; omega)
          | (refine q_loop (i + 1) (by show i + 1 ≤ S.length; omega) (by show S.length - (i + 1) < S.length - i; omega) (slots_cons (by show AV.int .i64 _ = AV.int .i64 _; refine int_eq ?_; simp) slots_nil) (slots_cons (by
              show (g36, Res.row _) = (g36, Res.row _)
              refine congrArg (fun z => (g36, Res.row (List.map (AV.int .i64) z))) ?_
              rw [hv1, hv2, e1, List.set_set]
              exact hrn _ hxi.symm) slots_nil) (by repeat' (first | exact kept_nil | apply kept_cons | rfl)) (by repeat' (first | exact kept_nil | apply kept_cons | rfl)))
      · rw [if_pos (by omega)] at hxi
        repeat' (first
          | with_reducible (first | refine Rd.p ?_ | refine w_alt ?_ ?_ | refine zE ?_ | refine zE0 ?_)
          | (first | refine w_ixE (f := fun g : Int × Int => [.int .i64 g.1, .int .i64 g.2]) hy rfl rfl ?_ | refine w_ldI rfl rfl (by rw [hrs]; omega) ?_ | refine w_stI rfl rfl rfl (by first | (rw [hrs]; omega) | (rw [hrl]; omega)) ?_)
          | with_reducible (first | refine zI fun y hy => ?_ | refine zL ?_ | refine zS ?_ | refine zA fun _ => ?_ | refine zV ?_ | refine zC ?_ | refine zG ?_ | refine zU ?_ | refine zG0 ?_ | refine zU0 ?_ | refine zF ?_)
          | with_reducible (first | refine zX ?_ | refine zD fun _ => ?_ | refine zD0 ?_ | refine zN ?_ | refine zF0 ?_ | refine zX0 ?_ | refine z1 ?_ | refine z2 ?_ | refine z3 ?_ | refine z4 ?_ | refine z5 ?_ | refine z6 ?_ | refine z7 ?_ | refine z8 ?_ | refine y1 ?_ | refine y2 ?_ | refine y3 ?_ | refine y4 ?_ | refine y5 ?_ | refine y6 ?_ | refine y7 ?_ | refine y8 ?_ | refine Rt.p (fun _ => ?_) fun _ => ?_)
          | ((with_reducible apply w_ixM); (focus exact rfl); (focus exact rfl); case' hk => intro y hy) | ((with_reducible (first | apply w_val | apply q_ends)); (focus exact rfl)))
        all_goals first
          | (exfalso; omega)
          | (refine q_loop (i + 1) (by show i + 1 ≤ S.length; omega) (by show S.length - (i + 1) < S.length - i; omega) (slots_cons (by show AV.int .i64 _ = AV.int .i64 _; refine int_eq ?_; simp) slots_nil) (slots_cons (by
              show (g36, Res.row _) = (g36, Res.row _)
              refine congrArg (fun z => (g36, Res.row (List.map (AV.int .i64) z))) ?_
              rw [e1]
              exact hrn _ hxi.symm) slots_nil) (by repeat' (first | exact kept_nil | apply kept_cons | rfl)) (by repeat' (first | exact kept_nil | apply kept_cons | rfl)))
    obtain rfl : i = S.length := by omega
    have hex : xs.take S.length ++ zrK (S.length - S.length) = xs := by rw [← hxl, List.take_length, Nat.sub_self]; simp
    rw [hex]
    clear hrl
    repeat' (first
      | with_reducible (first | refine Rd.p ?_ | refine w_alt ?_ ?_ | refine zE ?_ | refine zE0 ?_)
      | with_reducible (first | refine zI fun y hy => ?_ | refine zL ?_ | refine zS ?_ | refine zA fun _ => ?_ | refine zV ?_ | refine zC ?_ | refine zG ?_ | refine zU ?_ | refine zG0 ?_ | refine zU0 ?_ | refine zF ?_)
      | with_reducible (first | refine zX ?_ | refine zD fun _ => ?_ | refine zD0 ?_ | refine zN ?_ | refine zF0 ?_ | refine zX0 ?_ | refine z1 ?_ | refine z2 ?_ | refine z3 ?_ | refine z4 ?_ | refine z5 ?_ | refine z6 ?_ | refine z7 ?_ | refine z8 ?_ | refine y1 ?_ | refine y2 ?_ | refine y3 ?_ | refine y4 ?_ | refine y5 ?_ | refine y6 ?_ | refine y7 ?_ | refine y8 ?_ | refine Rt.p (fun _ => ?_) fun _ => ?_)
      | ((with_reducible apply w_ixM); (focus exact rfl); (focus exact rfl); case' hk => intro y hy) | ((with_reducible (first | apply w_val | apply q_ends)); (focus exact rfl)))
    refine w_loopK [1, 4, 6, 8, 9] [4, 36] (fun k : Nat => k ≤ S.length) (fun k => k) (fun k => [(11, .int .i64 ((k : Int) - 1))]) (fun k => [(39, (g39, .row ((zrK k ++ ys.drop k).map (AV.int .i64))))]) S.length (Nat.le_refl _) ⟨rfl, trivial⟩ (by exact ⟨by rw [List.drop_of_length_le (by omega), List.append_nil]; rfl, trivial⟩) ?_
    rintro k hk1 e σ
    try dsimp only at hk1 ⊢
    have hrl : (zrK k ++ ys.drop k).length = S.length := by simp; omega
    cases k with
    | succ i =>
      have hin : i < S.length := by omega
      obtain ⟨y, hy⟩ := hgS i hin
      have hb := hSb i y hy
      have hyi := hy0 i y hy
      have e1 : (((i + 1 : Nat) : Int) - 1).toNat * 1 = i := by omega
      have hrp := fun a ha => row_prev (ys := ys) (i := i) (by omega) a ha
      have hrs : ∀ a, ((zrK (i + 1) ++ ys.drop (i + 1)).set ((((i + 1 : Nat) : Int) - 1).toNat * 1) a).length = S.length := fun a => by rw [List.length_set]; exact hrl
      by_cases hi0 : i + 1 < S.length
      · have e2 : (((i + 1 : Nat) : Int) - 1 + 1).toNat * 1 = i + 1 := by omega
        have hv1 : ((zrK (i + 1) ++ ys.drop (i + 1)).set ((((i + 1 : Nat) : Int) - 1).toNat * 1) y.2).getD ((((i + 1 : Nat) : Int) - 1).toNat * 1) 0 = y.2 := by rw [e1]; exact getD_set_self (by omega) _
        have hv2 : ((zrK (i + 1) ++ ys.drop (i + 1)).set ((((i + 1 : Nat) : Int) - 1).toNat * 1) y.2).getD ((((i + 1 : Nat) : Int) - 1 + 1).toNat * 1) 0 = ys.getD (i + 1) 0 := by rw [e1, e2, getD_set_ne (by omega), getD_drop (by omega)]
        have hpb := hyb (i + 1)
        rw [if_pos hi0] at hyi
        repeat' (first
          | with_reducible (first | refine Rd.p ?_ | refine w_alt ?_ ?_ | refine zE ?_ | refine zE0 ?_)
          | (first | refine w_ixE (f := fun g : Int × Int => [.int .i64 g.1, .int .i64 g.2]) hy rfl (by show AV.int .i64 _ = AV.int .i64 _; refine int_eq ?_; omega) ?_ | refine w_ldI rfl rfl (by rw [hrs]; omega) ?_ | refine w_stI rfl rfl rfl (by first | (rw [hrs]; omega) | (rw [hrl]; omega)) ?_)
          | with_reducible (first | refine zI fun y hy => ?_ | refine zL ?_ | refine zS ?_ | refine zA fun _ => ?_ | refine zV ?_ | refine zC ?_ | refine zG ?_ | refine zU ?_ | refine zG0 ?_ | refine zU0 ?_ | refine zF ?_)
          | with_reducible (first | refine zX ?_ | refine zD fun _ => ?_ | refine zD0 ?_ | refine zN ?_ | refine zF0 ?_ | refine zX0 ?_ | refine z1 ?_ | refine z2 ?_ | refine z3 ?_ | refine z4 ?_ | refine z5 ?_ | refine z6 ?_ | refine z7 ?_ | refine z8 ?_ | refine y1 ?_ | refine y2 ?_ | refine y3 ?_ | refine y4 ?_ | refine y5 ?_ | refine y6 ?_ | refine y7 ?_ | refine y8 ?_ | refine Rt.p (fun _ => ?_) fun _ => ?_)
          | ((with_reducible apply w_ixM); (focus exact rfl); (focus exact rfl); case' hk => intro y hy) | ((with_reducible (first | apply w_val | apply q_ends)); (focus exact rfl)))
        all_goals first
          | (exfalso; omega)
          | (refine q_loop i (by show i ≤ S.length; omega) (by show i < i + 1; omega) (slots_cons (by show AV.int .i64 _ = AV.int .i64 _; refine int_eq ?_; omega) slots_nil) (slots_cons (by
              show (g39, Res.row _) = (g39, Res.row _)
              refine congrArg (fun z => (g39, Res.row (List.map (AV.int .i64) z))) ?_
              rw [hv1, hv2, e1, List.set_set]
              exact hrp _ hyi.symm) slots_nil) (by repeat' (first | exact kept_nil | apply kept_cons | rfl)) (by repeat' (first | exact kept_nil | apply kept_cons | rfl)))
      · rw [if_neg hi0] at hyi
        repeat' (first
          | with_reducible (first | refine Rd.p ?_ | refine w_alt ?_ ?_ | refine zE ?_ | refine zE0 ?_)
          | (first | refine w_ixE (f := fun g : Int × Int => [.int .i64 g.1, .int .i64 g.2]) hy rfl (by show AV.int .i64 _ = AV.int .i64 _; refine int_eq ?_; omega) ?_ | refine w_ldI rfl rfl (by rw [hrs]; omega) ?_ | refine w_stI rfl rfl rfl (by first | (rw [hrs]; omega) | (rw [hrl]; omega)) ?_)
          | with_reducible (first | refine zI fun y hy => ?_ | refine zL ?_ | refine zS ?_ | refine zA fun _ => ?_ | refine zV ?_ | refine zC ?_ | refine zG ?_ | refine zU ?_ | refine zG0 ?_ | refine zU0 ?_ | refine zF ?_)
          | with_reducible (first | refine zX ?_ | refine zD fun _ => ?_ | refine zD0 ?_ | refine zN ?_ | refine zF0 ?_ | refine zX0 ?_ | refine z1 ?_ | refine z2 ?_ | refine z3 ?_ | refine z4 ?_ | refine z5 ?_ | refine z6 ?_ | refine z7 ?_ | refine z8 ?_ | refine y1 ?_ | refine y2 ?_ | refine y3 ?_ | refine y4 ?_ | refine y5 ?_ | refine y6 ?_ | refine y7 ?_ | refine y8 ?_ | refine Rt.p (fun _ => ?_) fun _ => ?_)
          | ((with_reducible apply w_ixM); (focus exact rfl); (focus exact rfl); case' hk => intro y hy) | ((with_reducible (first | apply w_val | apply q_ends)); (focus exact rfl)))
        all_goals first
          | (exfalso; omega)
          | (refine q_loop i (by show i ≤ S.length; omega) (by show i < i + 1; omega) (slots_cons (by show AV.int .i64 _ = AV.int .i64 _; refine int_eq ?_; omega) slots_nil) (slots_cons (by
              show (g39, Res.row _) = (g39, Res.row _)
              refine congrArg (fun z => (g39, Res.row (List.map (AV.int .i64) z))) ?_
              rw [e1]
              exact hrp _ hyi.symm) slots_nil) (by repeat' (first | exact kept_nil | apply kept_cons | rfl)) (by repeat' (first | exact kept_nil | apply kept_cons | rfl)))
    | zero =>
    have hex2 : zrK 0 ++ ys.drop 0 = ys := by simp [zrK]
    rw [hex2]
    clear hrl
    repeat' (first
      | with_reducible (first | refine Rd.p ?_ | refine w_alt ?_ ?_ | refine zE ?_ | refine zE0 ?_)
      | with_reducible (first | refine zI fun y hy => ?_ | refine zL ?_ | refine zS ?_ | refine zA fun _ => ?_ | refine zV ?_ | refine zC ?_ | refine zG ?_ | refine zU ?_ | refine zG0 ?_ | refine zU0 ?_ | refine zF ?_)
      | with_reducible (first | refine zX ?_ | refine zD fun _ => ?_ | refine zD0 ?_ | refine zN ?_ | refine zF0 ?_ | refine zX0 ?_ | refine z1 ?_ | refine z2 ?_ | refine z3 ?_ | refine z4 ?_ | refine z5 ?_ | refine z6 ?_ | refine z7 ?_ | refine z8 ?_ | refine y1 ?_ | refine y2 ?_ | refine y3 ?_ | refine y4 ?_ | refine y5 ?_ | refine y6 ?_ | refine y7 ?_ | refine y8 ?_ | refine Rt.p (fun _ => ?_) fun _ => ?_)
      | ((with_reducible apply w_ixM); (focus exact rfl); (focus exact rfl); case' hk => intro y hy) | ((with_reducible (first | apply w_val | apply q_ends)); (focus exact rfl)))
    all_goals try (exfalso; omega)
    refine w_loopK [1, 4, 6, 8, 9] [4, 36, 39] (fun i : Nat => i ≤ S.length ∧ ∀ j < i, xs.getD j 0 ≤ ys.getD j 0) (fun i => S.length - i) (fun i => [(12, .int .i64 i)]) (fun _ => []) 0 ⟨Nat.zero_le _, fun j h => by omega⟩ ⟨rfl, trivial⟩ trivial ?_
    rintro i ⟨hi1, hi2⟩ e σ
    try dsimp only at hi1 hi2 ⊢
    by_cases hin : i < S.length
    · have e1 : ((i : Nat) : Int).toNat * 1 = i := by omega
      by_cases hle : xs.getD (((i : Nat) : Int).toNat * 1) 0 ≤ ys.getD (((i : Nat) : Int).toNat * 1) 0
      · repeat' (first
          | with_reducible (first | refine Rd.p ?_ | refine w_alt ?_ ?_ | refine zE ?_ | refine zE0 ?_)
          | (refine w_ldI rfl rfl (by omega) ?_)
          | with_reducible (first | refine zI fun y hy => ?_ | refine zL ?_ | refine zS ?_ | refine zA fun _ => ?_ | refine zV ?_ | refine zC ?_ | refine zG ?_ | refine zU ?_ | refine zG0 ?_ | refine zU0 ?_ | refine zF ?_)
          | with_reducible (first | refine zX ?_ | refine zD fun _ => ?_ | refine zD0 ?_ | refine zN ?_ | refine zF0 ?_ | refine zX0 ?_ | refine z1 ?_ | refine z2 ?_ | refine z3 ?_ | refine z4 ?_ | refine z5 ?_ | refine z6 ?_ | refine z7 ?_ | refine z8 ?_ | refine y1 ?_ | refine y2 ?_ | refine y3 ?_ | refine y4 ?_ | refine y5 ?_ | refine y6 ?_ | refine y7 ?_ | refine y8 ?_ | refine Rt.p (fun _ => ?_) fun _ => ?_)
          | ((with_reducible apply w_ixM); (focus exact rfl); (focus exact rfl); case' hk => intro y hy) | ((with_reducible (first | apply w_val | apply q_ends)); (focus exact rfl)))
        all_goals first
          | (exfalso; omega)
          | (refine q_loop (i + 1) ⟨by omega, fun j hj => ?_⟩ (by show S.length - (i + 1) < S.length - i; omega) (slots_cons (by show AV.int .i64 _ = AV.int .i64 _; refine int_eq ?_; simp) slots_nil) trivial (by repeat' (first | exact kept_nil | apply kept_cons | rfl)) (by repeat' (first | exact kept_nil | apply kept_cons | rfl))
             rcases (by omega : j < i ∨ j = i) with h | rfl
             · exact hi2 j h
             · rw [e1] at hle; exact hle)
      · have hff : ft = false := by
          cases ft with
          | false => rfl
          | true => rw [e1] at hle; exact absurd (hfit.1 rfl i hin) hle
        repeat' (first
          | with_reducible (first | refine Rd.p ?_ | refine w_alt ?_ ?_ | refine zE ?_ | refine zE0 ?_)
          | (refine w_ldI rfl rfl (by omega) ?_)
          | with_reducible (first | refine zI fun y hy => ?_ | refine zL ?_ | refine zS ?_ | refine zA fun _ => ?_ | refine zV ?_ | refine zC ?_ | refine zG ?_ | refine zU ?_ | refine zG0 ?_ | refine zU0 ?_ | refine zF ?_)
          | with_reducible (first | refine zX ?_ | refine zD fun _ => ?_ | refine zD0 ?_ | refine zN ?_ | refine zF0 ?_ | refine zX0 ?_ | refine z1 ?_ | refine z2 ?_ | refine z3 ?_ | refine z4 ?_ | refine z5 ?_ | refine z6 ?_ | refine z7 ?_ | refine z8 ?_ | refine y1 ?_ | refine y2 ?_ | refine y3 ?_ | refine y4 ?_ | refine y5 ?_ | refine y6 ?_ | refine y7 ?_ | refine y8 ?_ | refine Rt.p (fun _ => ?_) fun _ => ?_)
          | ((with_reducible apply w_ixM); (focus exact rfl); (focus exact rfl); case' hk => intro y hy) | ((with_reducible (first | apply w_val | apply q_ends)); (focus exact rfl)))
        all_goals first
          | (exfalso; omega)
          | (rw [hff, if_neg (by decide)]; rfl)
    obtain rfl : i = S.length := by omega
    have hff : ft = true := hfit.2 hi2
    subst hff
    repeat' (first
      | with_reducible (first | refine Rd.p ?_ | refine w_alt ?_ ?_ | refine zE ?_ | refine zE0 ?_)
      | with_reducible (first | refine zI fun y hy => ?_ | refine zL ?_ | refine zS ?_ | refine zA fun _ => ?_ | refine zV ?_ | refine zC ?_ | refine zG ?_ | refine zU ?_ | refine zG0 ?_ | refine zU0 ?_ | refine zF ?_)
      | with_reducible (first | refine zX ?_ | refine zD fun _ => ?_ | refine zD0 ?_ | refine zN ?_ | refine zF0 ?_ | refine zX0 ?_ | refine z1 ?_ | refine z2 ?_ | refine z3 ?_ | refine z4 ?_ | refine z5 ?_ | refine z6 ?_ | refine z7 ?_ | refine z8 ?_ | refine y1 ?_ | refine y2 ?_ | refine y3 ?_ | refine y4 ?_ | refine y5 ?_ | refine y6 ?_ | refine y7 ?_ | refine y8 ?_ | refine Rt.p (fun _ => ?_) fun _ => ?_)
      | ((with_reducible apply w_ixM); (focus exact rfl); (focus exact rfl); case' hk => intro y hy) | ((with_reducible (first | apply w_val | apply q_ends)); (focus exact rfl)))
    all_goals try (exfalso; omega)
    refine w_frzIS [(1, .slc 1 (iR o) .non), (4, .ref 4 g4 0), (8, .slc 1 (iR xs) .non), (9, .msl 39 g39 S.length 1)] [(4, (g4, .row [.nsl, .nsl, .nsl])), (39, (g39, .row (ys.map (AV.int .i64))))] rfl rfl hxl ⟨rfl, rfl, frzA_msl hxl, rfl, trivial⟩ ⟨frzS_at rfl (by decide) rfl, frzS_at rfl (by decide) (frzL_int _), trivial⟩ ?_
    intro e σ
    repeat' (first
      | with_reducible (first | refine Rd.p ?_ | refine w_alt ?_ ?_ | refine zE ?_ | refine zE0 ?_)
      | with_reducible (first | refine zI fun y hy => ?_ | refine zL ?_ | refine zS ?_ | refine zA fun _ => ?_ | refine zV ?_ | refine zC ?_ | refine zG ?_ | refine zU ?_ | refine zG0 ?_ | refine zU0 ?_ | refine zF ?_)
      | with_reducible (first | refine zX ?_ | refine zD fun _ => ?_ | refine zD0 ?_ | refine zN ?_ | refine zF0 ?_ | refine zX0 ?_ | refine z1 ?_ | refine z2 ?_ | refine z3 ?_ | refine z4 ?_ | refine z5 ?_ | refine z6 ?_ | refine z7 ?_ | refine z8 ?_ | refine y1 ?_ | refine y2 ?_ | refine y3 ?_ | refine y4 ?_ | refine y5 ?_ | refine y6 ?_ | refine y7 ?_ | refine y8 ?_ | refine Rt.p (fun _ => ?_) fun _ => ?_)
      | ((with_reducible apply w_ixM); (focus exact rfl); (focus exact rfl); case' hk => intro y hy) | ((with_reducible (first | apply w_val | apply q_ends)); (focus exact rfl)))
    refine w_frzIS [(1, .slc 1 (iR o) .non), (4, .ref 4 g4 0), (8, .slc 1 (iR xs) .non), (9, .slc 1 (iR ys) .non)] [(4, (g4, .row [.nsl, .nsl, .nsl]))] rfl rfl hyl ⟨rfl, rfl, rfl, frzA_msl hyl, trivial⟩ ⟨frzS_at rfl (by decide) rfl, trivial⟩ ?_
    intro e σ
    repeat' (first
      | with_reducible (first | refine Rd.p ?_ | refine w_alt ?_ ?_ | refine zE ?_ | refine zE0 ?_)
      | with_reducible (first | refine zI fun y hy => ?_ | refine zL ?_ | refine zS ?_ | refine zA fun _ => ?_ | refine zV ?_ | refine zC ?_ | refine zG ?_ | refine zU ?_ | refine zG0 ?_ | refine zU0 ?_ | refine zF ?_)
      | with_reducible (first | refine zX ?_ | refine zD fun _ => ?_ | refine zD0 ?_ | refine zN ?_ | refine zF0 ?_ | refine zX0 ?_ | refine z1 ?_ | refine z2 ?_ | refine z3 ?_ | refine z4 ?_ | refine z5 ?_ | refine z6 ?_ | refine z7 ?_ | refine z8 ?_ | refine y1 ?_ | refine y2 ?_ | refine y3 ?_ | refine y4 ?_ | refine y5 ?_ | refine y6 ?_ | refine y7 ?_ | refine y8 ?_ | refine Rt.p (fun _ => ?_) fun _ => ?_)
      | ((with_reducible apply w_ixM); (focus exact rfl); (focus exact rfl); case' hk => intro y hy) | ((with_reducible (first | apply w_val | apply q_ends)); (focus exact rfl)))
    rfl
end Go.Abs
