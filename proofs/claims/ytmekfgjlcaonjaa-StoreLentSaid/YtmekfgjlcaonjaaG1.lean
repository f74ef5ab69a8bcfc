/- A part of the proofs of the laws of this seat: contracts of the functions that they reach, each proved of the program's form in Lean. No condition beyond those that each contract names. -/
import Derived.Test.YtmekfgjlcaonjaaC5
import Derived.Test.YtmekfgjlcaonjaaC4
import Derived.Test.YtmekfgjlcaonjaaC3
import Derived.Test.YtmekfgjlcaonjaaC2
import Derived.Test.YtmekfgjlcaonjaaC1
import Derived.Test.YtmekfgjlcaonjaaB
set_option linter.unusedVariables false
set_option linter.unusedSimpArgs false
set_option maxRecDepth 20000
set_option maxHeartbeats 4000000
namespace Go.Abs
open Go.Proofs
structure Lon where
  th : Int
  fr : Int
  to : Int
  wo : Int
  deriving DecidableEq
abbrev oR (l : List Lon) : List (List AV) := l.map fun g => [.int .i64 g.th, .int .i64 g.fr, .int .i64 g.to, .int .i64 g.wo]
abbrev oA (g : Lon) : AV := .agg [.int .i64 g.th, .int .i64 g.fr, .int .i64 g.to, .int .i64 g.wo]
def lonE (g : Lon) : Int := if (inB g.th 0 49 && (inB g.fr 0 100000 && (inB g.to 0 100000 && inB g.wo 0 1000))) = true then (if g.to < g.fr then 11 else 0) else 2
def lonsE : List Lon → Int
  | [] => 0
  | g :: r => if lonE g = 0 then lonsE r else lonE g
/-- The error of loans. -/
def lendE (l : List Lon) : Int := if 12 < l.length then 8 else lonsE l
def agB (a b : Lon) : Bool := decide (a.th = b.th ∧ a.fr ≤ b.to ∧ b.fr ≤ a.to)
theorem agB_comm (a b : Lon) : agB a b = agB b a := by unfold agB; rw [Bool.eq_iff_iff, decide_eq_true_eq, decide_eq_true_eq]; constructor <;> (intro ⟨h1, h2, h3⟩; exact ⟨h1.symm, h3, h2⟩)
/-- aloeswood/store.loan -/
def ir108 : IFn :=
  ⟨26, [(2, none)], (.seq (.ops [⟨(some 1), none, (.box 4 (.t 0))⟩,
    ⟨(some 2), none, (.mov (.k (.int .i64 0)))⟩])
  (.seq (.blk 0 (.seq (.seq (.ops [⟨(some 4), none, (.flA 0 (.t 1))⟩,
      ⟨(some 5), none, (.ld 1 false (.t 4))⟩,
      ⟨(some 6), none, (.callF 97 [(.t 5), (.k (.int .i64 0)), (.k (.int .i64 49))])⟩,
      ⟨(some 7), none, (.not (.t 6))⟩,
      ⟨(some 3), none, (.mov (.t 7))⟩])
    (.cnd (.t 3)
      .skip
      (.seq (.ops [⟨(some 8), none, (.flA 1 (.t 1))⟩,
        ⟨(some 9), none, (.ld 1 false (.t 8))⟩,
        ⟨(some 10), none, (.callF 97 [(.t 9), (.k (.int .i64 0)), (.k (.int .i64 100000))])⟩,
        ⟨(some 11), none, (.not (.t 10))⟩,
        ⟨(some 3), none, (.mov (.t 11))⟩])
      (.cnd (.t 3)
        .skip
        (.seq (.ops [⟨(some 12), none, (.flA 2 (.t 1))⟩,
          ⟨(some 13), none, (.ld 1 false (.t 12))⟩,
          ⟨(some 14), none, (.callF 97 [(.t 13), (.k (.int .i64 0)), (.k (.int .i64 100000))])⟩,
          ⟨(some 15), none, (.not (.t 14))⟩,
          ⟨(some 3), none, (.mov (.t 15))⟩])
        (.cnd (.t 3)
          .skip
          (.ops [⟨(some 16), none, (.flA 3 (.t 1))⟩,
            ⟨(some 17), none, (.ld 1 false (.t 16))⟩,
            ⟨(some 18), none, (.callF 97 [(.t 17), (.k (.int .i64 0)), (.k (.int .i64 1000))])⟩,
            ⟨(some 19), none, (.not (.t 18))⟩,
            ⟨(some 3), none, (.mov (.t 19))⟩])))))))
    (.cnd (.t 3)
      (.seq (.ops [⟨(some 2), none, (.mov (.k (.int .i64 2)))⟩])
      .ret)
      (.seq (.ops [⟨(some 21), none, (.flA 1 (.t 1))⟩,
        ⟨(some 22), none, (.ld 1 false (.t 21))⟩,
        ⟨(some 23), none, (.flA 2 (.t 1))⟩,
        ⟨(some 24), none, (.ld 1 false (.t 23))⟩,
        ⟨(some 25), none, (.bin .gtr (.t 22) (.t 24))⟩,
        ⟨(some 20), none, (.mov (.t 25))⟩])
      (.cnd (.t 20)
        (.seq (.ops [⟨(some 2), none, (.mov (.k (.int .i64 11)))⟩])
        .ret)
        .skip)))))
  (.seq (.ops [⟨(some 2), none, (.mov (.k (.int .i64 0)))⟩])
  .ret)))⟩
def hint108 (P : Program) : Hint := {}
/-- aloeswood/store.against -/
def ir110 : IFn :=
  ⟨24, [(4, none)], (.seq (.ops [⟨(some 2), none, (.box 4 (.t 0))⟩,
    ⟨(some 3), none, (.box 4 (.t 1))⟩,
    ⟨(some 4), none, (.mov (.k (.bool false)))⟩])
  (.seq (.ops [⟨(some 5), none, (.flA 0 (.t 2))⟩,
    ⟨(some 6), none, (.ld 1 false (.t 5))⟩,
    ⟨(some 7), none, (.flA 0 (.t 3))⟩,
    ⟨(some 8), none, (.ld 1 false (.t 7))⟩,
    ⟨(some 9), none, (.bin .eql (.t 6) (.t 8))⟩,
    ⟨(some 10), none, (.mov (.t 9))⟩,
    ⟨(some 11), (some (10, true)), (.flA 1 (.t 2))⟩,
    ⟨(some 12), (some (10, true)), (.ld 1 false (.t 11))⟩,
    ⟨(some 13), (some (10, true)), (.flA 2 (.t 3))⟩,
    ⟨(some 14), (some (10, true)), (.ld 1 false (.t 13))⟩,
    ⟨(some 15), (some (10, true)), (.bin .leq (.t 12) (.t 14))⟩,
    ⟨(some 16), none, (.pick (.t 10) (.t 15) (.k (.bool false)))⟩,
    ⟨(some 17), none, (.mov (.t 16))⟩,
    ⟨(some 18), (some (17, true)), (.flA 1 (.t 3))⟩,
    ⟨(some 19), (some (17, true)), (.ld 1 false (.t 18))⟩,
    ⟨(some 20), (some (17, true)), (.flA 2 (.t 2))⟩,
    ⟨(some 21), (some (17, true)), (.ld 1 false (.t 20))⟩,
    ⟨(some 22), (some (17, true)), (.bin .leq (.t 19) (.t 21))⟩,
    ⟨(some 23), none, (.pick (.t 17) (.t 22) (.k (.bool false)))⟩,
    ⟨(some 4), none, (.mov (.t 23))⟩])
  .ret))⟩
def hint110 (P : Program) : Hint := {}
/-- cmp.Compare[int] -/
def ir112 : IFn :=
  ⟨20, [(4, none)], (.seq (.ops [⟨(some 4), none, (.mov (.k (.int .i64 0)))⟩])
  (.seq (.ops [⟨(some 7), none, (.mov (.t 0))⟩,
    ⟨(some 8), none, (.callF 129 [(.t 7)])⟩,
    ⟨(some 5), none, (.mov (.t 8))⟩])
  (.seq (.ops [⟨(some 9), none, (.mov (.t 1))⟩,
    ⟨(some 10), none, (.callF 129 [(.t 9)])⟩,
    ⟨(some 6), none, (.mov (.t 10))⟩])
  (.seq (.seq (.ops [⟨(some 11), none, (.mov (.t 5))⟩])
  (.cnd (.t 11)
    (.seq (.seq (.ops [⟨(some 12), none, (.mov (.t 6))⟩])
    (.cnd (.t 12)
      (.seq (.ops [⟨(some 4), none, (.mov (.k (.int .i64 0)))⟩])
      .ret)
      .skip))
    (.seq (.ops [⟨(some 4), none, (.mov (.k (.int .i64 (-1))))⟩])
    .ret))
    .skip))
  (.seq (.seq (.ops [⟨(some 13), none, (.mov (.t 6))⟩])
  (.cnd (.t 13)
    (.seq (.ops [⟨(some 4), none, (.mov (.k (.int .i64 1)))⟩])
    .ret)
    .skip))
  (.seq (.seq (.ops [⟨(some 14), none, (.mov (.t 0))⟩,
    ⟨(some 15), none, (.mov (.t 1))⟩,
    ⟨(some 16), none, (.bin .lss (.t 14) (.t 15))⟩])
  (.cnd (.t 16)
    (.seq (.ops [⟨(some 4), none, (.mov (.k (.int .i64 (-1))))⟩])
    .ret)
    .skip))
  (.seq (.seq (.ops [⟨(some 17), none, (.mov (.t 0))⟩,
    ⟨(some 18), none, (.mov (.t 1))⟩,
    ⟨(some 19), none, (.bin .gtr (.t 17) (.t 18))⟩])
  (.cnd (.t 19)
    (.seq (.ops [⟨(some 4), none, (.mov (.k (.int .i64 1)))⟩])
    .ret)
    .skip))
  (.seq (.ops [⟨(some 4), none, (.mov (.k (.int .i64 0)))⟩])
  .ret))))))))⟩
def hint112 (P : Program) : Hint := {}
/-- cmp.Or[int] -/
def ir111 : IFn :=
  ⟨18, [(2, none)], (.seq (.ops [⟨(some 2), none, (.mov (.k (.int .i64 0)))⟩])
  (.seq (.ops [⟨(some 3), none, (.mov (.k (.int .i64 0)))⟩])
  (.seq (.seq (.ops [⟨(some 6), none, (.mov (.t 0))⟩,
    ⟨(some 7), none, (.len false (.t 6))⟩,
    ⟨(some 8), none, (.mov (.k (.int .i64 0)))⟩])
  (.blk 0 (.loop (.seq (.ops [⟨(some 9), none, (.bin .lss (.t 8) (.t 7))⟩])
      (.seq (.cnd (.t 9)
        .skip
        (.exit 0))
      (.seq (.blk 1 (.seq (.ops [⟨(some 10), none, (.ixA 1 (.t 6) (.t 8))⟩,
          ⟨(some 11), none, (.ld 1 false (.t 10))⟩,
          ⟨(some 5), none, (.mov (.t 11))⟩])
        (.seq (.ops [⟨(some 12), none, (.mov (.t 5))⟩,
          ⟨(some 13), none, (.mov (.t 3))⟩,
          ⟨(some 14), none, (.bin .neq (.t 12) (.t 13))⟩])
        (.cnd (.t 14)
          (.seq (.ops [⟨(some 15), none, (.mov (.t 5))⟩,
            ⟨(some 2), none, (.mov (.t 15))⟩])
          .ret)
          .skip))))
      (.ops [⟨(some 16), none, (.bin .add (.t 8) (.k (.int .i64 1)))⟩,
        ⟨(some 8), none, (.mov (.t 16))⟩])))))))
  (.seq (.ops [⟨(some 17), none, (.mov (.t 3))⟩,
    ⟨(some 2), none, (.mov (.t 17))⟩])
  .ret))))⟩
def hint111 (P : Program) : Hint := {}
/-- slices.Compare[[]int,int] -/
def ir113 : IFn :=
  ⟨36, [(4, none)], (.seq (.ops [⟨(some 4), none, (.mov (.k (.int .i64 0)))⟩])
  (.seq (.seq (.ops [⟨(some 9), none, (.mov (.t 0))⟩,
    ⟨(some 10), none, (.len false (.t 9))⟩,
    ⟨(some 11), none, (.mov (.k (.int .i64 0)))⟩])
  (.blk 0 (.loop (.seq (.ops [⟨(some 12), none, (.bin .lss (.t 11) (.t 10))⟩])
      (.seq (.cnd (.t 12)
        .skip
        (.exit 0))
      (.seq (.blk 1 (.seq (.ops [⟨(some 13), none, (.mov (.t 11))⟩,
          ⟨(some 14), none, (.ixA 1 (.t 9) (.t 11))⟩,
          ⟨(some 15), none, (.ld 1 false (.t 14))⟩,
          ⟨(some 5), none, (.mov (.t 13))⟩,
          ⟨(some 6), none, (.mov (.t 15))⟩])
        (.seq (.seq (.ops [⟨(some 16), none, (.mov (.t 5))⟩,
          ⟨(some 17), none, (.mov (.t 1))⟩,
          ⟨(some 18), none, (.len false (.t 17))⟩,
          ⟨(some 19), none, (.bin .geq (.t 16) (.t 18))⟩])
        (.cnd (.t 19)
          (.seq (.ops [⟨(some 4), none, (.mov (.k (.int .i64 1)))⟩])
          .ret)
          .skip))
        (.seq (.ops [⟨(some 20), none, (.mov (.t 1))⟩,
          ⟨(some 21), none, (.mov (.t 5))⟩,
          ⟨(some 22), none, (.ixA 1 (.t 20) (.t 21))⟩,
          ⟨(some 23), none, (.ld 1 false (.t 22))⟩,
          ⟨(some 7), none, (.mov (.t 23))⟩])
        (.seq (.ops [⟨(some 24), none, (.mov (.t 6))⟩,
          ⟨(some 25), none, (.mov (.t 7))⟩,
          ⟨(some 26), none, (.callF 112 [(.t 24), (.t 25)])⟩,
          ⟨(some 8), none, (.mov (.t 26))⟩])
        (.seq (.ops [⟨(some 27), none, (.mov (.t 8))⟩,
          ⟨(some 28), none, (.bin .neq (.t 27) (.k (.int .i64 0)))⟩])
        (.cnd (.t 28)
          (.seq (.ops [⟨(some 29), none, (.mov (.t 8))⟩,
            ⟨(some 4), none, (.mov (.t 29))⟩])
          .ret)
          .skip)))))))
      (.ops [⟨(some 30), none, (.bin .add (.t 11) (.k (.int .i64 1)))⟩,
        ⟨(some 11), none, (.mov (.t 30))⟩])))))))
  (.seq (.seq (.ops [⟨(some 31), none, (.mov (.t 0))⟩,
    ⟨(some 32), none, (.len false (.t 31))⟩,
    ⟨(some 33), none, (.mov (.t 1))⟩,
    ⟨(some 34), none, (.len false (.t 33))⟩,
    ⟨(some 35), none, (.bin .lss (.t 32) (.t 34))⟩])
  (.cnd (.t 35)
    (.seq (.ops [⟨(some 4), none, (.mov (.k (.int .i64 (-1))))⟩])
    .ret)
    .skip))
  (.seq (.ops [⟨(some 4), none, (.mov (.k (.int .i64 0)))⟩])
  .ret))))⟩
def hint113 (P : Program) : Hint := {}
/-- aloeswood/aloeswoodref09.Against -/
def ir115 : IFn :=
  ⟨24, [(4, none)], (.seq (.ops [⟨(some 2), none, (.box 4 (.t 0))⟩,
    ⟨(some 3), none, (.box 4 (.t 1))⟩,
    ⟨(some 4), none, (.mov (.k (.bool false)))⟩])
  (.seq (.ops [⟨(some 5), none, (.flA 0 (.t 2))⟩,
    ⟨(some 6), none, (.ld 1 false (.t 5))⟩,
    ⟨(some 7), none, (.flA 0 (.t 3))⟩,
    ⟨(some 8), none, (.ld 1 false (.t 7))⟩,
    ⟨(some 9), none, (.bin .eql (.t 6) (.t 8))⟩,
    ⟨(some 10), none, (.mov (.t 9))⟩,
    ⟨(some 11), (some (10, true)), (.flA 1 (.t 2))⟩,
    ⟨(some 12), (some (10, true)), (.ld 1 false (.t 11))⟩,
    ⟨(some 13), (some (10, true)), (.flA 2 (.t 3))⟩,
    ⟨(some 14), (some (10, true)), (.ld 1 false (.t 13))⟩,
    ⟨(some 15), (some (10, true)), (.bin .leq (.t 12) (.t 14))⟩,
    ⟨(some 16), none, (.pick (.t 10) (.t 15) (.k (.bool false)))⟩,
    ⟨(some 17), none, (.mov (.t 16))⟩,
    ⟨(some 18), (some (17, true)), (.flA 1 (.t 3))⟩,
    ⟨(some 19), (some (17, true)), (.ld 1 false (.t 18))⟩,
    ⟨(some 20), (some (17, true)), (.flA 2 (.t 2))⟩,
    ⟨(some 21), (some (17, true)), (.ld 1 false (.t 20))⟩,
    ⟨(some 22), (some (17, true)), (.bin .leq (.t 19) (.t 21))⟩,
    ⟨(some 23), none, (.pick (.t 17) (.t 22) (.k (.bool false)))⟩,
    ⟨(some 4), none, (.mov (.t 23))⟩])
  .ret))⟩
def hint115 (P : Program) : Hint := {}
theorem loan_s (g : Lon) : Fn0 Try.prog 108 [oA g] (fun v => v = .int .i64 (lonE g)) := by
  refine RawC.walk (H := hint108 Try.prog) ir108 Try.func108 rfl rfl rfl ?_
  unfold ir108
  repeat' (first
    | with_reducible (first | refine Rd.p ?_ | refine w_alt ?_ ?_ | refine zE ?_ | refine zE0 ?_)
    | with_reducible (first | refine zI fun y hy => ?_ | refine zL ?_ | refine zS ?_ | refine zA fun _ => ?_ | refine zV ?_ | refine zC ?_ | refine zG ?_ | refine zU ?_ | refine zG0 ?_ | refine zU0 ?_ | refine zF ?_)
    | ((with_reducible refine acall_id ?_); refine ACall.val (within_s _ _ _) rfl rfl ?_)
    | with_reducible (first | refine zX ?_ | refine zD fun _ => ?_ | refine zD0 ?_ | refine zN ?_ | refine zF0 ?_ | refine zX0 ?_ | refine z1 ?_ | refine z2 ?_ | refine z3 ?_ | refine z4 ?_ | refine z5 ?_ | refine z6 ?_ | refine z7 ?_ | refine z8 ?_ | refine y1 ?_ | refine y2 ?_ | refine y3 ?_ | refine y4 ?_ | refine y5 ?_ | refine y6 ?_ | refine y7 ?_ | refine y8 ?_ | refine Rt.p (fun _ => ?_) fun _ => ?_)
    | ((with_reducible apply w_ixM); (focus exact rfl); (focus exact rfl); case' hk => intro y hy) | ((with_reducible (first | apply w_val | apply q_ends)); (focus exact rfl)))
  all_goals (refine congrArg (AV.int .i64) ?_; unfold lonE; simp_all; try omega)
theorem against_s (a b : Lon) : Fn0 Try.prog 110 [oA a, oA b] (fun v => v = .bool (agB a b)) := by
  refine RawC.walk (H := hint110 Try.prog) ir110 Try.func110 rfl rfl rfl ?_
  unfold ir110
  repeat' (first
    | with_reducible (first | refine Rd.p ?_ | refine w_alt ?_ ?_ | refine zE ?_ | refine zE0 ?_)
    | with_reducible (first | refine zI fun y hy => ?_ | refine zL ?_ | refine zS ?_ | refine zA fun _ => ?_ | refine zV ?_ | refine zC ?_ | refine zG ?_ | refine zU ?_ | refine zG0 ?_ | refine zU0 ?_ | refine zF ?_)
    | with_reducible (first | refine zX ?_ | refine zD fun _ => ?_ | refine zD0 ?_ | refine zN ?_ | refine zF0 ?_ | refine zX0 ?_ | refine z1 ?_ | refine z2 ?_ | refine z3 ?_ | refine z4 ?_ | refine z5 ?_ | refine z6 ?_ | refine z7 ?_ | refine z8 ?_ | refine y1 ?_ | refine y2 ?_ | refine y3 ?_ | refine y4 ?_ | refine y5 ?_ | refine y6 ?_ | refine y7 ?_ | refine y8 ?_ | refine Rt.p (fun _ => ?_) fun _ => ?_)
    | ((with_reducible apply w_ixM); (focus exact rfl); (focus exact rfl); case' hk => intro y hy) | ((with_reducible (first | apply w_val | apply q_ends)); (focus exact rfl)))
  all_goals (refine congrArg AV.bool ?_; unfold agB; first | (symm; rw [decide_eq_true_eq]; simp_all; done) | (symm; rw [decide_eq_false_iff_not]; simp_all; done) | (simp_all; done) | (simp_all; omega))
theorem rAgainst_s (a b : Lon) : Fn0 Try.prog 115 [oA a, oA b] (fun v => v = .bool (agB a b)) := by
  refine RawC.walk (H := hint115 Try.prog) ir115 Try.func115 rfl rfl rfl ?_
  unfold ir115
  repeat' (first
    | with_reducible (first | refine Rd.p ?_ | refine w_alt ?_ ?_ | refine zE ?_ | refine zE0 ?_)
    | with_reducible (first | refine zI fun y hy => ?_ | refine zL ?_ | refine zS ?_ | refine zA fun _ => ?_ | refine zV ?_ | refine zC ?_ | refine zG ?_ | refine zU ?_ | refine zG0 ?_ | refine zU0 ?_ | refine zF ?_)
    | with_reducible (first | refine zX ?_ | refine zD fun _ => ?_ | refine zD0 ?_ | refine zN ?_ | refine zF0 ?_ | refine zX0 ?_ | refine z1 ?_ | refine z2 ?_ | refine z3 ?_ | refine z4 ?_ | refine z5 ?_ | refine z6 ?_ | refine z7 ?_ | refine z8 ?_ | refine y1 ?_ | refine y2 ?_ | refine y3 ?_ | refine y4 ?_ | refine y5 ?_ | refine y6 ?_ | refine y7 ?_ | refine y8 ?_ | refine Rt.p (fun _ => ?_) fun _ => ?_)
    | ((with_reducible apply w_ixM); (focus exact rfl); (focus exact rfl); case' hk => intro y hy) | ((with_reducible (first | apply w_val | apply q_ends)); (focus exact rfl)))
  all_goals (refine congrArg AV.bool ?_; unfold agB; first | (symm; rw [decide_eq_true_eq]; simp_all; done) | (symm; rw [decide_eq_false_iff_not]; simp_all; done) | (simp_all; done) | (simp_all; omega))
def cmpI (a b : Int) : Int := if a < b then -1 else if b < a then 1 else 0
theorem cmp_g (a b : Int) : Fn0 Try.prog 112 [.int .i64 a, .int .i64 b] (fun v => v = .int .i64 (cmpI a b)) := by
  refine RawC.walk (H := hint112 Try.prog) ir112 Try.func112 rfl rfl rfl ?_
  unfold ir112
  repeat' (first
    | with_reducible (first | refine Rd.p ?_ | refine w_alt ?_ ?_ | refine zE ?_ | refine zE0 ?_)
    | with_reducible (first | refine zI fun y hy => ?_ | refine zL ?_ | refine zS ?_ | refine zA fun _ => ?_ | refine zV ?_ | refine zC ?_ | refine zG ?_ | refine zU ?_ | refine zG0 ?_ | refine zU0 ?_ | refine zF ?_)
    | ((with_reducible refine acall_id ?_); refine ACall.val (isNaN_s _) rfl rfl ?_)
    | with_reducible (first | refine zX ?_ | refine zD fun _ => ?_ | refine zD0 ?_ | refine zN ?_ | refine zF0 ?_ | refine zX0 ?_ | refine z1 ?_ | refine z2 ?_ | refine z3 ?_ | refine z4 ?_ | refine z5 ?_ | refine z6 ?_ | refine z7 ?_ | refine z8 ?_ | refine y1 ?_ | refine y2 ?_ | refine y3 ?_ | refine y4 ?_ | refine y5 ?_ | refine y6 ?_ | refine y7 ?_ | refine y8 ?_ | refine Rt.p (fun _ => ?_) fun _ => ?_)
    | ((with_reducible apply w_ixM); (focus exact rfl); (focus exact rfl); case' hk => intro y hy) | ((with_reducible (first | apply w_val | apply q_ends)); (focus exact rfl)))
  all_goals (refine congrArg (AV.int .i64) ?_; unfold cmpI; first | (rw [if_pos (by assumption)]; done) | (rw [if_neg (by assumption), if_pos (by assumption)]; done) | (rw [if_neg (by assumption), if_neg (by assumption)]))
def cmpL : List Int → List Int → Int
  | x :: a, y :: b => if cmpI x y = 0 then cmpL a b else cmpI x y
  | [], [] => 0
  | [], _ :: _ => -1
  | _ :: _, [] => 1
theorem cmpL_g (a b : List Int) (ha : a.length < 1000) (hb : b.length < 1000) : Fn0 Try.prog 113 [.slc 1 (iR a) .non, .slc 1 (iR b) .non] (fun v => v = .int .i64 (cmpL a b)) := by
  refine RawC.walk (H := hint113 Try.prog) ir113 Try.func113 rfl rfl rfl ?_
  unfold ir113
  repeat' (first
    | with_reducible (first | refine Rd.p ?_ | refine w_alt ?_ ?_ | refine zE ?_ | refine zE0 ?_)
    | with_reducible (first | refine zI fun y hy => ?_ | refine zL ?_ | refine zS ?_ | refine zA fun _ => ?_ | refine zV ?_ | refine zC ?_ | refine zG ?_ | refine zU ?_ | refine zG0 ?_ | refine zU0 ?_ | refine zF ?_)
    | with_reducible (first | refine zX ?_ | refine zD fun _ => ?_ | refine zD0 ?_ | refine zN ?_ | refine zF0 ?_ | refine zX0 ?_ | refine z1 ?_ | refine z2 ?_ | refine z3 ?_ | refine z4 ?_ | refine z5 ?_ | refine z6 ?_ | refine z7 ?_ | refine z8 ?_ | refine y1 ?_ | refine y2 ?_ | refine y3 ?_ | refine y4 ?_ | refine y5 ?_ | refine y6 ?_ | refine y7 ?_ | refine y8 ?_ | refine Rt.p (fun _ => ?_) fun _ => ?_)
    | ((with_reducible apply w_ixM); (focus exact rfl); (focus exact rfl); case' hk => intro y hy) | ((with_reducible (first | apply w_val | apply q_ends)); (focus exact rfl)))
  refine w_loopK [0, 1, 9, 10] [] (fun x : List Int × List Int × List Int × List Int => a = x.1 ++ x.2.1 ∧ b = x.2.2.1 ++ x.2.2.2 ∧ x.1.length = x.2.2.1.length ∧ cmpL a b = cmpL x.2.1 x.2.2.2) (fun x => x.2.1.length) (fun x => [(11, .int .i64 x.1.length)]) (fun _ => []) ([], a, [], b) ⟨rfl, rfl, rfl, rfl⟩ ⟨rfl, trivial⟩ trivial ?_
  rintro ⟨p1, a1, p2, b1⟩ ⟨h1, h2, h3, h4⟩ e σ
  dsimp only at h1 h2 h3 h4 ⊢
  have l1 := congrArg List.length h1
  have l2 := congrArg List.length h2
  rw [List.length_append] at l1 l2
  rw [h4]
  cases a1 with
  | nil =>
    simp only [List.length_nil] at l1
    cases b1 with
    | nil =>
      simp only [List.length_nil] at l2
      repeat' (first
        | with_reducible (first | refine Rd.p ?_ | refine w_alt ?_ ?_ | refine zE ?_ | refine zE0 ?_)
        | with_reducible (first | refine zI fun y hy => ?_ | refine zL ?_ | refine zS ?_ | refine zA fun _ => ?_ | refine zV ?_ | refine zC ?_ | refine zG ?_ | refine zU ?_ | refine zG0 ?_ | refine zU0 ?_ | refine zF ?_)
        | with_reducible (first | refine zX ?_ | refine zD fun _ => ?_ | refine zD0 ?_ | refine zN ?_ | refine zF0 ?_ | refine zX0 ?_ | refine z1 ?_ | refine z2 ?_ | refine z3 ?_ | refine z4 ?_ | refine z5 ?_ | refine z6 ?_ | refine z7 ?_ | refine z8 ?_ | refine y1 ?_ | refine y2 ?_ | refine y3 ?_ | refine y4 ?_ | refine y5 ?_ | refine y6 ?_ | refine y7 ?_ | refine y8 ?_ | refine Rt.p (fun _ => ?_) fun _ => ?_)
        | ((with_reducible apply w_ixM); (focus exact rfl); (focus exact rfl); case' hk => intro y hy) | ((with_reducible (first | apply w_val | apply q_ends)); (focus exact rfl)))
      rfl
    | cons y b1 =>
      simp only [List.length_cons] at l2
      repeat' (first
        | with_reducible (first | refine Rd.p ?_ | refine w_alt ?_ ?_ | refine zE ?_ | refine zE0 ?_)
        | with_reducible (first | refine zI fun y hy => ?_ | refine zL ?_ | refine zS ?_ | refine zA fun _ => ?_ | refine zV ?_ | refine zC ?_ | refine zG ?_ | refine zU ?_ | refine zG0 ?_ | refine zU0 ?_ | refine zF ?_)
        | with_reducible (first | refine zX ?_ | refine zD fun _ => ?_ | refine zD0 ?_ | refine zN ?_ | refine zF0 ?_ | refine zX0 ?_ | refine z1 ?_ | refine z2 ?_ | refine z3 ?_ | refine z4 ?_ | refine z5 ?_ | refine z6 ?_ | refine z7 ?_ | refine z8 ?_ | refine y1 ?_ | refine y2 ?_ | refine y3 ?_ | refine y4 ?_ | refine y5 ?_ | refine y6 ?_ | refine y7 ?_ | refine y8 ?_ | refine Rt.p (fun _ => ?_) fun _ => ?_)
        | ((with_reducible apply w_ixM); (focus exact rfl); (focus exact rfl); case' hk => intro y hy) | ((with_reducible (first | apply w_val | apply q_ends)); (focus exact rfl)))
      rfl
  | cons x a1 =>
    simp only [List.length_cons] at l1
    cases b1 with
    | nil =>
      simp only [List.length_nil] at l2
      repeat' (first
        | with_reducible (first | refine Rd.p ?_ | refine w_alt ?_ ?_ | refine zE ?_ | refine zE0 ?_)
        | (refine w_ixP (pre := p1) (y := x) h1 rfl rfl ?_)
        | with_reducible (first | refine zI fun y hy => ?_ | refine zL ?_ | refine zS ?_ | refine zA fun _ => ?_ | refine zV ?_ | refine zC ?_ | refine zG ?_ | refine zU ?_ | refine zG0 ?_ | refine zU0 ?_ | refine zF ?_)
        | with_reducible (first | refine zX ?_ | refine zD fun _ => ?_ | refine zD0 ?_ | refine zN ?_ | refine zF0 ?_ | refine zX0 ?_ | refine z1 ?_ | refine z2 ?_ | refine z3 ?_ | refine z4 ?_ | refine z5 ?_ | refine z6 ?_ | refine z7 ?_ | refine z8 ?_ | refine y1 ?_ | refine y2 ?_ | refine y3 ?_ | refine y4 ?_ | refine y5 ?_ | refine y6 ?_ | refine y7 ?_ | refine y8 ?_ | refine Rt.p (fun _ => ?_) fun _ => ?_)
        | ((with_reducible apply w_ixM); (focus exact rfl); (focus exact rfl); case' hk => intro y hy) | ((with_reducible (first | apply w_val | apply q_ends)); (focus exact rfl)))
      rfl
    | cons y b1 =>
      simp only [List.length_cons] at l2
      have hc := cmp_g x y
      have h2' : ∀ K : Prop, K → True := fun _ _ => trivial
      by_cases hz : cmpI x y = 0
      · have hv : cmpL (x :: a1) (y :: b1) = cmpL a1 b1 := by rw [cmpL, if_pos hz]
        repeat' (first
          | with_reducible (first | refine Rd.p ?_ | refine w_alt ?_ ?_ | refine zE ?_ | refine zE0 ?_)
          | (refine w_ixP (pre := p1) (y := x) h1 rfl rfl ?_)
          | (refine w_ixP (pre := p2) (y := y) h2 rfl (by show AV.int .i64 _ = _; rw [h3]) ?_)
          | with_reducible (first | refine zI fun y hy => ?_ | refine zL ?_ | refine zS ?_ | refine zA fun _ => ?_ | refine zV ?_ | refine zC ?_ | refine zG ?_ | refine zU ?_ | refine zG0 ?_ | refine zU0 ?_ | refine zF ?_)
          | ((with_reducible refine acall_id ?_); refine ACall.val hc rfl rfl ?_)
          | with_reducible (first | refine zX ?_ | refine zD fun _ => ?_ | refine zD0 ?_ | refine zN ?_ | refine zF0 ?_ | refine zX0 ?_ | refine z1 ?_ | refine z2 ?_ | refine z3 ?_ | refine z4 ?_ | refine z5 ?_ | refine z6 ?_ | refine z7 ?_ | refine z8 ?_ | refine y1 ?_ | refine y2 ?_ | refine y3 ?_ | refine y4 ?_ | refine y5 ?_ | refine y6 ?_ | refine y7 ?_ | refine y8 ?_ | refine Rt.p (fun _ => ?_) fun _ => ?_)
          | ((with_reducible apply w_ixM); (focus exact rfl); (focus exact rfl); case' hk => intro y hy) | ((with_reducible (first | apply w_val | apply q_ends)); (focus exact rfl)))
        refine q_loop (p1 ++ [x], a1, p2 ++ [y], b1) ⟨by show a = _; rw [h1]; simp, by show b = _; rw [h2]; simp, by simp [h3], hv⟩ (by simp) (slots_cons (by show AV.int .i64 _ = AV.int .i64 _; refine int_eq ?_; simp) slots_nil) trivial (by repeat' (first | exact kept_nil | apply kept_cons | rfl)) (by repeat' (first | exact kept_nil | apply kept_cons | rfl))
      · have hv : cmpL (x :: a1) (y :: b1) = cmpI x y := by rw [cmpL, if_neg hz]
        repeat' (first
          | with_reducible (first | refine Rd.p ?_ | refine w_alt ?_ ?_ | refine zE ?_ | refine zE0 ?_)
          | (refine w_ixP (pre := p1) (y := x) h1 rfl rfl ?_)
          | (refine w_ixP (pre := p2) (y := y) h2 rfl (by show AV.int .i64 _ = _; rw [h3]) ?_)
          | with_reducible (first | refine zI fun y hy => ?_ | refine zL ?_ | refine zS ?_ | refine zA fun _ => ?_ | refine zV ?_ | refine zC ?_ | refine zG ?_ | refine zU ?_ | refine zG0 ?_ | refine zU0 ?_ | refine zF ?_)
          | ((with_reducible refine acall_id ?_); refine ACall.val hc rfl rfl ?_)
          | with_reducible (first | refine zX ?_ | refine zD fun _ => ?_ | refine zD0 ?_ | refine zN ?_ | refine zF0 ?_ | refine zX0 ?_ | refine z1 ?_ | refine z2 ?_ | refine z3 ?_ | refine z4 ?_ | refine z5 ?_ | refine z6 ?_ | refine z7 ?_ | refine z8 ?_ | refine y1 ?_ | refine y2 ?_ | refine y3 ?_ | refine y4 ?_ | refine y5 ?_ | refine y6 ?_ | refine y7 ?_ | refine y8 ?_ | refine Rt.p (fun _ => ?_) fun _ => ?_)
          | ((with_reducible apply w_ixM); (focus exact rfl); (focus exact rfl); case' hk => intro y hy) | ((with_reducible (first | apply w_val | apply q_ends)); (focus exact rfl)))
        rw [hv]; rfl
def orI (a b c : Int) : Int := if a ≠ 0 then a else if b ≠ 0 then b else c
theorem or_g (a b c : Int) : Fn0 Try.prog 111 [.slc 1 (iR [a, b, c]) .non] (fun v => v = .int .i64 (orI a b c)) := by
  have key : ∀ l : List Int, l.length ≤ 3 → Fn0 Try.prog 111 [.slc 1 (iR l) .non] (fun v => v = .int .i64 ((l.find? fun x => decide (x ≠ 0)).getD 0)) := by
    intro l hl
    refine RawC.walk (H := hint111 Try.prog) ir111 Try.func111 rfl rfl rfl ?_
    unfold ir111
    repeat' (first
      | with_reducible (first | refine Rd.p ?_ | refine w_alt ?_ ?_ | refine zE ?_ | refine zE0 ?_)
      | with_reducible (first | refine zI fun y hy => ?_ | refine zL ?_ | refine zS ?_ | refine zA fun _ => ?_ | refine zV ?_ | refine zC ?_ | refine zG ?_ | refine zU ?_ | refine zG0 ?_ | refine zU0 ?_ | refine zF ?_)
      | with_reducible (first | refine zX ?_ | refine zD fun _ => ?_ | refine zD0 ?_ | refine zN ?_ | refine zF0 ?_ | refine zX0 ?_ | refine z1 ?_ | refine z2 ?_ | refine z3 ?_ | refine z4 ?_ | refine z5 ?_ | refine z6 ?_ | refine z7 ?_ | refine z8 ?_ | refine y1 ?_ | refine y2 ?_ | refine y3 ?_ | refine y4 ?_ | refine y5 ?_ | refine y6 ?_ | refine y7 ?_ | refine y8 ?_ | refine Rt.p (fun _ => ?_) fun _ => ?_)
      | ((with_reducible apply w_ixM); (focus exact rfl); (focus exact rfl); case' hk => intro y hy) | ((with_reducible (first | apply w_val | apply q_ends)); (focus exact rfl)))
    refine w_loopK [3, 6, 7] [] (fun x : List Int × List Int => l = x.1 ++ x.2 ∧ ((l.find? fun x => decide (x ≠ 0)) = x.2.find? fun x => decide (x ≠ 0))) (fun x => x.2.length) (fun x => [(8, .int .i64 x.1.length)]) (fun _ => []) ([], l) ⟨rfl, rfl⟩ ⟨rfl, trivial⟩ trivial ?_
    rintro ⟨pre, post⟩ ⟨hpp, hf⟩ e σ
    dsimp only at hpp hf ⊢
    have hlen := congrArg List.length hpp
    rw [List.length_append] at hlen
    cases post with
    | nil =>
      simp only [List.length_nil] at hlen
      rw [hf]
      repeat' (first
        | with_reducible (first | refine Rd.p ?_ | refine w_alt ?_ ?_ | refine zE ?_ | refine zE0 ?_)
        | with_reducible (first | refine zI fun y hy => ?_ | refine zL ?_ | refine zS ?_ | refine zA fun _ => ?_ | refine zV ?_ | refine zC ?_ | refine zG ?_ | refine zU ?_ | refine zG0 ?_ | refine zU0 ?_ | refine zF ?_)
        | with_reducible (first | refine zX ?_ | refine zD fun _ => ?_ | refine zD0 ?_ | refine zN ?_ | refine zF0 ?_ | refine zX0 ?_ | refine z1 ?_ | refine z2 ?_ | refine z3 ?_ | refine z4 ?_ | refine z5 ?_ | refine z6 ?_ | refine z7 ?_ | refine z8 ?_ | refine y1 ?_ | refine y2 ?_ | refine y3 ?_ | refine y4 ?_ | refine y5 ?_ | refine y6 ?_ | refine y7 ?_ | refine y8 ?_ | refine Rt.p (fun _ => ?_) fun _ => ?_)
        | ((with_reducible apply w_ixM); (focus exact rfl); (focus exact rfl); case' hk => intro y hy) | ((with_reducible (first | apply w_val | apply q_ends)); (focus exact rfl)))
      rfl
    | cons y post =>
      simp only [List.length_cons] at hlen
      repeat' (first
        | with_reducible (first | refine Rd.p ?_ | refine w_alt ?_ ?_ | refine zE ?_ | refine zE0 ?_)
        | (refine w_ixP hpp rfl rfl ?_)
        | with_reducible (first | refine zI fun y hy => ?_ | refine zL ?_ | refine zS ?_ | refine zA fun _ => ?_ | refine zV ?_ | refine zC ?_ | refine zG ?_ | refine zU ?_ | refine zG0 ?_ | refine zU0 ?_ | refine zF ?_)
        | with_reducible (first | refine zX ?_ | refine zD fun _ => ?_ | refine zD0 ?_ | refine zN ?_ | refine zF0 ?_ | refine zX0 ?_ | refine z1 ?_ | refine z2 ?_ | refine z3 ?_ | refine z4 ?_ | refine z5 ?_ | refine z6 ?_ | refine z7 ?_ | refine z8 ?_ | refine y1 ?_ | refine y2 ?_ | refine y3 ?_ | refine y4 ?_ | refine y5 ?_ | refine y6 ?_ | refine y7 ?_ | refine y8 ?_ | refine Rt.p (fun _ => ?_) fun _ => ?_)
        | ((with_reducible apply w_ixM); (focus exact rfl); (focus exact rfl); case' hk => intro y hy) | ((with_reducible (first | apply w_val | apply q_ends)); (focus exact rfl)))
      · rename_i h
        rw [hf, List.find?_cons_of_pos (by simpa using h)]; rfl
      · rename_i h
        refine q_loop (pre ++ [y], post) ⟨by show l = _; rw [hpp]; simp, by show _ = post.find? _; rw [hf, List.find?_cons_of_neg (by simpa using h)]⟩ (by simp) (slots_cons (by show AV.int .i64 _ = AV.int .i64 _; refine int_eq ?_; simp) slots_nil) trivial (by repeat' (first | exact kept_nil | apply kept_cons | rfl)) (by repeat' (first | exact kept_nil | apply kept_cons | rfl))
  have := key [a, b, c] (by simp)
  refine RawC.mono this fun v _ h => ?_
  dsimp only at h ⊢
  rw [h]
  refine congrArg (AV.int .i64) ?_
  unfold orI
  by_cases h1 : a = 0
  · by_cases h2 : b = 0
    · by_cases h3 : c = 0 <;> simp [h1, h2, h3]
    · simp [h1, h2]
  · simp [h1]
end Go.Abs
