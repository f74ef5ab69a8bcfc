/- A part of the proofs of the laws of this seat: contracts of the functions that they reach, each proved of the program's form in Lean. No condition beyond those that each contract names. -/
import Derived.Test.YtmekfgjlcaonjaaC15
import Derived.Test.YtmekfgjlcaonjaaC14
import Derived.Test.YtmekfgjlcaonjaaC12
import Derived.Test.YtmekfgjlcaonjaaC10
import Derived.Test.YtmekfgjlcaonjaaC2
import Derived.Test.YtmekfgjlcaonjaaC1
import Derived.Test.YtmekfgjlcaonjaaB0
import Derived.Test.YtmekfgjlcaonjaaB4
import Derived.Test.YtmekfgjlcaonjaaB9
import Derived.Test.YtmekfgjlcaonjaaB20
set_option linter.unusedVariables false
set_option linter.unusedSimpArgs false
set_option maxRecDepth 20000
set_option maxHeartbeats 4000000
/-! ### Seasons: the document's own functions -/
namespace Go.Abs
open Go.Proofs
/-- aloeswood/aloeswoodref09.within -/
def ir83 : IFn :=
  ⟨15, [(6, none)], (.seq (.ops [⟨(some 6), none, (.mov (.k (.bool false)))⟩])
  (.seq (.ops [⟨(some 7), none, (.mov (.t 1))⟩,
    ⟨(some 8), none, (.mov (.t 0))⟩,
    ⟨(some 9), none, (.bin .leq (.t 7) (.t 8))⟩,
    ⟨(some 10), none, (.mov (.t 9))⟩,
    ⟨(some 11), (some (10, true)), (.mov (.t 0))⟩,
    ⟨(some 12), (some (10, true)), (.mov (.t 2))⟩,
    ⟨(some 13), (some (10, true)), (.bin .leq (.t 11) (.t 12))⟩,
    ⟨(some 14), none, (.pick (.t 10) (.t 13) (.k (.bool false)))⟩,
    ⟨(some 6), none, (.mov (.t 14))⟩])
  .ret))⟩
def hint83 (P : Program) : Hint := {}

/-- aloeswood/aloeswoodref09.CheckSeason -/
def ir63 : IFn :=
  ⟨75, [(2, none)], (.seq (.ops [⟨(some 1), none, (.box 2 (.t 0))⟩,
    ⟨(some 2), none, (.mov (.k (.int .i64 0)))⟩])
  (.seq (.seq (.ops [⟨(some 8), none, (.flA 0 (.t 1))⟩,
    ⟨(some 9), none, (.ld 1 false (.t 8))⟩,
    ⟨(some 10), none, (.len false (.t 9))⟩,
    ⟨(some 11), none, (.bin .eql (.t 10) (.k (.int .i64 0)))⟩])
  (.cnd (.t 11)
    (.seq (.ops [⟨(some 2), none, (.mov (.k (.int .i64 6)))⟩])
    .ret)
    .skip))
  (.seq (.seq (.ops [⟨(some 12), none, (.flA 0 (.t 1))⟩,
    ⟨(some 13), none, (.ld 1 false (.t 12))⟩,
    ⟨(some 14), none, (.len false (.t 13))⟩,
    ⟨(some 15), none, (.bin .gtr (.t 14) (.k (.int .i64 4)))⟩])
  (.cnd (.t 15)
    (.seq (.ops [⟨(some 2), none, (.mov (.k (.int .i64 8)))⟩])
    .ret)
    .skip))
  (.seq (.seq (.ops [⟨(some 3), none, (.mov (.k (.int .i64 0)))⟩])
  (.blk 0 (.loop (.seq (.seq (.ops [⟨(some 16), none, (.mov (.t 3))⟩,
        ⟨(some 17), none, (.flA 0 (.t 1))⟩,
        ⟨(some 18), none, (.ld 1 false (.t 17))⟩,
        ⟨(some 19), none, (.len false (.t 18))⟩,
        ⟨(some 20), none, (.bin .lss (.t 16) (.t 19))⟩])
      (.cnd (.t 20)
        .skip
        (.exit 0)))
      (.seq (.blk 1 (.seq (.ops [⟨(some 23), none, (.flA 0 (.t 1))⟩,
          ⟨(some 24), none, (.ld 1 false (.t 23))⟩,
          ⟨(some 25), none, (.mov (.t 3))⟩,
          ⟨(some 26), none, (.ixA 1 (.t 24) (.t 25))⟩,
          ⟨(some 27), none, (.ld 1 false (.t 26))⟩,
          ⟨(some 28), none, (.callF 83 [(.t 27), (.k (.int .i64 1)), (.k (.int .i64 6))])⟩,
          ⟨(some 29), none, (.not (.t 28))⟩])
        (.cnd (.t 29)
          (.seq (.ops [⟨(some 2), none, (.mov (.k (.int .i64 2)))⟩])
          .ret)
          .skip)))
      (.ops [⟨(some 21), none, (.mov (.t 3))⟩,
        ⟨(some 22), none, (.bin .add (.t 21) (.k (.int .i64 1)))⟩,
        ⟨(some 3), none, (.mov (.t 22))⟩]))))))
  (.seq (.seq (.ops [⟨(some 30), none, (.flA 1 (.t 1))⟩,
    ⟨(some 31), none, (.ld 1 false (.t 30))⟩,
    ⟨(some 32), none, (.len false (.t 31))⟩,
    ⟨(some 33), none, (.bin .gtr (.t 32) (.k (.int .i64 9)))⟩])
  (.cnd (.t 33)
    (.seq (.ops [⟨(some 2), none, (.mov (.k (.int .i64 8)))⟩])
    .ret)
    .skip))
  (.seq (.seq (.ops [⟨(some 4), none, (.mov (.k (.int .i64 0)))⟩])
  (.blk 2 (.loop (.seq (.seq (.ops [⟨(some 34), none, (.mov (.t 4))⟩,
        ⟨(some 35), none, (.flA 1 (.t 1))⟩,
        ⟨(some 36), none, (.ld 1 false (.t 35))⟩,
        ⟨(some 37), none, (.len false (.t 36))⟩,
        ⟨(some 38), none, (.bin .lss (.t 34) (.t 37))⟩])
      (.cnd (.t 38)
        .skip
        (.exit 2)))
      (.seq (.blk 3 (.seq (.ops [⟨(some 41), none, (.flA 1 (.t 1))⟩,
          ⟨(some 42), none, (.ld 1 false (.t 41))⟩,
          ⟨(some 43), none, (.mov (.t 4))⟩,
          ⟨(some 44), none, (.ixA 1 (.t 42) (.t 43))⟩,
          ⟨(some 45), none, (.ld 1 false (.t 44))⟩,
          ⟨(some 5), none, (.mov (.t 45))⟩])
        (.seq (.seq (.ops [⟨(some 46), none, (.mov (.t 5))⟩,
          ⟨(some 47), none, (.len false (.t 46))⟩,
          ⟨(some 48), none, (.bin .eql (.t 47) (.k (.int .i64 0)))⟩])
        (.cnd (.t 48)
          (.seq (.ops [⟨(some 2), none, (.mov (.k (.int .i64 6)))⟩])
          .ret)
          .skip))
        (.seq (.ops [⟨(some 6), none, (.mov (.k (.int .i64 0)))⟩])
        (.blk 4 (.loop (.seq (.seq (.ops [⟨(some 49), none, (.mov (.t 6))⟩,
              ⟨(some 50), none, (.mov (.t 5))⟩,
              ⟨(some 51), none, (.len false (.t 50))⟩,
              ⟨(some 52), none, (.bin .lss (.t 49) (.t 51))⟩])
            (.cnd (.t 52)
              .skip
              (.exit 4)))
            (.seq (.blk 5 (.seq (.seq (.ops [⟨(some 55), none, (.mov (.t 5))⟩,
                ⟨(some 56), none, (.mov (.t 6))⟩,
                ⟨(some 57), none, (.ixA 1 (.t 55) (.t 56))⟩,
                ⟨(some 58), none, (.ld 1 false (.t 57))⟩,
                ⟨(some 59), none, (.callF 83 [(.t 58), (.k (.int .i64 0)), (.k (.int .i64 11))])⟩,
                ⟨(some 60), none, (.not (.t 59))⟩])
              (.cnd (.t 60)
                (.seq (.ops [⟨(some 2), none, (.mov (.k (.int .i64 2)))⟩])
                .ret)
                .skip))
              (.seq (.ops [⟨(some 7), none, (.mov (.k (.int .i64 0)))⟩])
              (.blk 6 (.loop (.seq (.seq (.ops [⟨(some 61), none, (.mov (.t 7))⟩,
                    ⟨(some 62), none, (.mov (.t 6))⟩,
                    ⟨(some 63), none, (.bin .lss (.t 61) (.t 62))⟩])
                  (.cnd (.t 63)
                    .skip
                    (.exit 6)))
                  (.seq (.blk 7 (.seq (.ops [⟨(some 66), none, (.mov (.t 5))⟩,
                      ⟨(some 67), none, (.mov (.t 7))⟩,
                      ⟨(some 68), none, (.ixA 1 (.t 66) (.t 67))⟩,
                      ⟨(some 69), none, (.ld 1 false (.t 68))⟩,
                      ⟨(some 70), none, (.mov (.t 5))⟩,
                      ⟨(some 71), none, (.mov (.t 6))⟩,
                      ⟨(some 72), none, (.ixA 1 (.t 70) (.t 71))⟩,
                      ⟨(some 73), none, (.ld 1 false (.t 72))⟩,
                      ⟨(some 74), none, (.bin .eql (.t 69) (.t 73))⟩])
                    (.cnd (.t 74)
                      (.seq (.ops [⟨(some 2), none, (.mov (.k (.int .i64 9)))⟩])
                      .ret)
                      .skip)))
                  (.ops [⟨(some 64), none, (.mov (.t 7))⟩,
                    ⟨(some 65), none, (.bin .add (.t 64) (.k (.int .i64 1)))⟩,
                    ⟨(some 7), none, (.mov (.t 65))⟩]))))))))
            (.ops [⟨(some 53), none, (.mov (.t 6))⟩,
              ⟨(some 54), none, (.bin .add (.t 53) (.k (.int .i64 1)))⟩,
              ⟨(some 6), none, (.mov (.t 54))⟩])))))))))
      (.ops [⟨(some 39), none, (.mov (.t 4))⟩,
        ⟨(some 40), none, (.bin .add (.t 39) (.k (.int .i64 1)))⟩,
        ⟨(some 4), none, (.mov (.t 40))⟩]))))))
  (.seq (.ops [⟨(some 2), none, (.mov (.k (.int .i64 0)))⟩])
  .ret)))))))⟩
def hint63 (P : Program) : Hint := {}

/-- aloeswood/aloeswoodref09.Combination -/
def ir60 : IFn :=
  ⟨49, [(4, none), (5, none)], (.seq (.ops [⟨(some 2), none, (.box 2 (.t 0))⟩,
    ⟨(some 4), none, (.mov (.k .nsl))⟩,
    ⟨(some 5), none, (.mov (.k (.int .i64 0)))⟩])
  (.seq (.seq (.ops [⟨(some 9), none, (.ld 2 true (.t 2))⟩,
    ⟨(some 10), none, (.callF 63 [(.t 9)])⟩,
    ⟨(some 6), none, (.mov (.t 10))⟩])
  (.seq (.ops [⟨(some 11), none, (.mov (.t 6))⟩,
    ⟨(some 12), none, (.bin .neq (.t 11) (.k (.int .i64 0)))⟩])
  (.cnd (.t 12)
    (.seq (.ops [⟨(some 13), none, (.mov (.t 6))⟩,
      ⟨(some 4), none, (.mov (.k .nsl))⟩,
      ⟨(some 5), none, (.mov (.t 13))⟩])
    .ret)
    .skip)))
  (.seq (.seq (.ops [⟨(some 14), none, (.mov (.t 1))⟩,
    ⟨(some 15), none, (.ld 2 true (.t 2))⟩,
    ⟨(some 16), none, (.callF 57 [(.t 15)])⟩,
    ⟨(some 17), none, (.bin .sub (.t 16) (.k (.int .i64 1)))⟩,
    ⟨(some 18), none, (.callF 83 [(.t 14), (.k (.int .i64 0)), (.t 17)])⟩,
    ⟨(some 19), none, (.not (.t 18))⟩])
  (.cnd (.t 19)
    (.seq (.ops [⟨(some 4), none, (.mov (.k .nsl))⟩,
      ⟨(some 5), none, (.mov (.k (.int .i64 7)))⟩])
    .ret)
    .skip))
  (.seq (.ops [⟨(some 20), none, (.flA 0 (.t 2))⟩,
    ⟨(some 21), none, (.ld 1 false (.t 20))⟩,
    ⟨(some 22), none, (.len false (.t 21))⟩,
    ⟨(some 23), none, (.mks 1 8 [(.int .i64 0)] (.t 22) (.t 22))⟩,
    ⟨(some 7), none, (.mov (.t 23))⟩])
  (.seq (.seq (.ops [⟨(some 24), none, (.mov (.t 7))⟩,
    ⟨(some 25), none, (.len false (.t 24))⟩,
    ⟨(some 26), none, (.bin .sub (.t 25) (.k (.int .i64 1)))⟩,
    ⟨(some 8), none, (.mov (.t 26))⟩])
  (.blk 0 (.loop (.seq (.seq (.ops [⟨(some 27), none, (.mov (.t 8))⟩,
        ⟨(some 28), none, (.bin .geq (.t 27) (.k (.int .i64 0)))⟩])
      (.cnd (.t 28)
        .skip
        (.exit 0)))
      (.seq (.blk 1 (.seq (.ops [⟨(some 31), none, (.mov (.t 7))⟩,
          ⟨(some 32), none, (.mov (.t 8))⟩,
          ⟨(some 33), none, (.mov (.t 1))⟩,
          ⟨(some 34), none, (.flA 0 (.t 2))⟩,
          ⟨(some 35), none, (.ld 1 false (.t 34))⟩,
          ⟨(some 36), none, (.mov (.t 8))⟩,
          ⟨(some 37), none, (.ixA 1 (.t 35) (.t 36))⟩,
          ⟨(some 38), none, (.ld 1 false (.t 37))⟩,
          ⟨(some 39), none, (.bin .rem (.t 33) (.t 38))⟩,
          ⟨(some 40), none, (.ixA 1 (.t 31) (.t 32))⟩,
          ⟨none, none, (.st 1 (.t 40) (.t 39))⟩])
        (.ops [⟨(some 41), none, (.mov (.t 1))⟩,
          ⟨(some 42), none, (.flA 0 (.t 2))⟩,
          ⟨(some 43), none, (.ld 1 false (.t 42))⟩,
          ⟨(some 44), none, (.mov (.t 8))⟩,
          ⟨(some 45), none, (.ixA 1 (.t 43) (.t 44))⟩,
          ⟨(some 46), none, (.ld 1 false (.t 45))⟩,
          ⟨(some 47), none, (.bin .quo (.t 41) (.t 46))⟩,
          ⟨(some 1), none, (.mov (.t 47))⟩])))
      (.ops [⟨(some 29), none, (.mov (.t 8))⟩,
        ⟨(some 30), none, (.bin .sub (.t 29) (.k (.int .i64 1)))⟩,
        ⟨(some 8), none, (.mov (.t 30))⟩]))))))
  (.seq (.seq (.frz (.t 7))
  (.ops [⟨(some 48), none, (.mov (.t 7))⟩,
    ⟨(some 4), none, (.mov (.t 48))⟩,
    ⟨(some 5), none, (.mov (.k (.int .i64 0)))⟩]))
  .ret))))))⟩
def hint60 (P : Program) : Hint := { site := [], nils := [], frz := [(48, 7)], mve := [], wr := [] }

theorem rwithin9_c (n a b : Int) : Fn0 Try.prog 83 [.int .i64 n, .int .i64 a, .int .i64 b] (fun v => v = .bool (inB n a b)) := by
  refine RawC.walk (H := hint83 Try.prog) ir83 Try.func83 rfl rfl rfl ?_
  unfold ir83
  repeat' (first
    | with_reducible (first | refine Rd.p ?_ | refine w_alt ?_ ?_ | refine zE ?_ | refine zE0 ?_)
    | with_reducible (first | refine zI fun y hy => ?_ | refine zL ?_ | refine zS ?_ | refine zA fun _ => ?_ | refine zV ?_ | refine zC ?_ | refine zG ?_ | refine zU ?_ | refine zG0 ?_ | refine zU0 ?_ | refine zF ?_)
    | with_reducible (first | refine zX ?_ | refine zD fun _ => ?_ | refine zD0 ?_ | refine zN ?_ | refine zF0 ?_ | refine zX0 ?_ | refine z1 ?_ | refine z2 ?_ | refine z3 ?_ | refine z4 ?_ | refine z5 ?_ | refine z6 ?_ | refine z7 ?_ | refine z8 ?_ | refine y1 ?_ | refine y2 ?_ | refine y3 ?_ | refine y4 ?_ | refine y5 ?_ | refine y6 ?_ | refine y7 ?_ | refine y8 ?_ | refine Rt.p (fun _ => ?_) fun _ => ?_)
    | ((with_reducible apply w_ixM); (focus exact rfl); (focus exact rfl); case' hk => intro y hy) | ((with_reducible (first | apply w_val | apply q_ends)); (focus exact rfl)))
  all_goals (refine congrArg AV.bool ?_; unfold inB; first | (symm; rw [decide_eq_true_eq]; omega) | (symm; rw [decide_eq_false_iff_not]; omega) | (simp; omega))
theorem rcheckS_s (s : Sea) (h1 : s.ss.length < 1000) (h2 : s.gs.length < 1000) (h3 : ∀ l ∈ s.gs, l.length < 1000) : Fn0 Try.prog 63 [seA s] (fun v => v = .int .i64 (seaE s)) := by
  refine RawC.walk (H := hint63 Try.prog) ir63 Try.func63 rfl rfl rfl ?_
  unfold ir63
  repeat' (first
    | with_reducible (first | refine Rd.p ?_ | refine w_alt ?_ ?_ | refine zE ?_ | refine zE0 ?_)
    | with_reducible (first | refine zI fun y hy => ?_ | refine zL ?_ | refine zS ?_ | refine zA fun _ => ?_ | refine zV ?_ | refine zC ?_ | refine zG ?_ | refine zU ?_ | refine zG0 ?_ | refine zU0 ?_ | refine zF ?_)
    | with_reducible (first | refine zX ?_ | refine zD fun _ => ?_ | refine zD0 ?_ | refine zN ?_ | refine zF0 ?_ | refine zX0 ?_ | refine z1 ?_ | refine z2 ?_ | refine z3 ?_ | refine z4 ?_ | refine z5 ?_ | refine z6 ?_ | refine z7 ?_ | refine z8 ?_ | refine y1 ?_ | refine y2 ?_ | refine y3 ?_ | refine y4 ?_ | refine y5 ?_ | refine y6 ?_ | refine y7 ?_ | refine y8 ?_ | refine Rt.p (fun _ => ?_) fun _ => ?_)
    | ((with_reducible apply w_ixM); (focus exact rfl); (focus exact rfl); case' hk => intro y hy) | ((with_reducible (first | apply w_val | apply q_ends)); (focus exact rfl)))
  · rename_i h; refine congrArg (AV.int .i64) ?_; rw [seaE, if_pos (List.length_eq_zero_iff.1 (by omega))]
  · rename_i h0 h; refine congrArg (AV.int .i64) ?_; rw [seaE, if_neg (fun e => h0 (by rw [e]; rfl)), if_pos (by omega)]
  rename_i g1 h0 h4
  have hne : s.ss ≠ [] := fun e => h0 (by rw [e]; rfl)
  refine w_loopK [1] [1] (fun x : List Int × List Int => s.ss = x.1 ++ x.2 ∧ sortsB x.1 = true) (fun x => x.2.length) (fun x => [(3, .int .i64 x.1.length)]) (fun _ => []) ([], s.ss) ⟨rfl, rfl⟩ ⟨rfl, trivial⟩ trivial ?_
  rintro ⟨pre, post⟩ ⟨hp, hb⟩ e σ
  dsimp only at hp hb ⊢
  have hlen := congrArg List.length hp
  rw [List.length_append] at hlen
  cases post with
  | cons d post =>
    simp only [List.length_cons] at hlen
    repeat' (first
      | with_reducible (first | refine Rd.p ?_ | refine w_alt ?_ ?_ | refine zE ?_ | refine zE0 ?_)
      | (refine w_ixP hp rfl rfl ?_)
      | with_reducible (first | refine zI fun y hy => ?_ | refine zL ?_ | refine zS ?_ | refine zA fun _ => ?_ | refine zV ?_ | refine zC ?_ | refine zG ?_ | refine zU ?_ | refine zG0 ?_ | refine zU0 ?_ | refine zF ?_)
      | ((with_reducible refine acall_id ?_); refine ACall.val (rwithin9_c _ _ _) rfl rfl ?_)
      | with_reducible (first | refine zX ?_ | refine zD fun _ => ?_ | refine zD0 ?_ | refine zN ?_ | refine zF0 ?_ | refine zX0 ?_ | refine z1 ?_ | refine z2 ?_ | refine z3 ?_ | refine z4 ?_ | refine z5 ?_ | refine z6 ?_ | refine z7 ?_ | refine z8 ?_ | refine y1 ?_ | refine y2 ?_ | refine y3 ?_ | refine y4 ?_ | refine y5 ?_ | refine y6 ?_ | refine y7 ?_ | refine y8 ?_ | refine Rt.p (fun _ => ?_) fun _ => ?_)
      | ((with_reducible apply w_ixM); (focus exact rfl); (focus exact rfl); case' hk => intro y hy) | ((with_reducible (first | apply w_val | apply q_ends)); (focus exact rfl)))
    · rename_i h
      refine congrArg (AV.int .i64) ?_
      have : sortsB s.ss = false := by rw [hp]; simp [sortsB, h]
      rw [seaE, if_neg hne, if_neg (by omega), if_neg (by simp [this])]
    · rename_i h
      refine zQ (pre ++ [d], post) ?_ ?_
      · exact ⟨by rw [hp]; simp, by simp only [sortsB, List.all_append, Bool.and_eq_true] at hb ⊢; exact ⟨hb, by simp [h]⟩⟩
      · simp
  | nil =>
    rw [List.append_nil] at hp
    subst hp
    simp only [List.length_nil] at hlen
    have hs0 : seaE s = if 9 < s.gs.length then 8 else gathsE s.gs := by rw [seaE, if_neg hne, if_neg (by omega), if_pos hb]
    repeat' (first
      | with_reducible (first | refine Rd.p ?_ | refine w_alt ?_ ?_ | refine zE ?_ | refine zE0 ?_)
      | with_reducible (first | refine zI fun y hy => ?_ | refine zL ?_ | refine zS ?_ | refine zA fun _ => ?_ | refine zV ?_ | refine zC ?_ | refine zG ?_ | refine zU ?_ | refine zG0 ?_ | refine zU0 ?_ | refine zF ?_)
      | with_reducible (first | refine zX ?_ | refine zD fun _ => ?_ | refine zD0 ?_ | refine zN ?_ | refine zF0 ?_ | refine zX0 ?_ | refine z1 ?_ | refine z2 ?_ | refine z3 ?_ | refine z4 ?_ | refine z5 ?_ | refine z6 ?_ | refine z7 ?_ | refine z8 ?_ | refine y1 ?_ | refine y2 ?_ | refine y3 ?_ | refine y4 ?_ | refine y5 ?_ | refine y6 ?_ | refine y7 ?_ | refine y8 ?_ | refine Rt.p (fun _ => ?_) fun _ => ?_)
      | ((with_reducible apply w_ixM); (focus exact rfl); (focus exact rfl); case' hk => intro y hy) | ((with_reducible (first | apply w_val | apply q_ends)); (focus exact rfl)))
    · rename_i h; refine congrArg (AV.int .i64) ?_; rw [hs0, if_pos (by omega)]
    rename_i h9
    rw [if_neg (by omega)] at hs0
    rw [hs0]
    refine w_loopK [1] [1] (fun x : List (List Int) × List (List Int) => s.gs = x.1 ++ x.2 ∧ gathsE s.gs = gathsE x.2) (fun x => x.2.length) (fun x => [(4, .int .i64 x.1.length)]) (fun _ => []) ([], s.gs) ⟨rfl, rfl⟩ ⟨rfl, trivial⟩ trivial ?_
    rintro ⟨pre, post⟩ ⟨hp, hg⟩ e σ
    dsimp only at hp hg ⊢
    have hlen := congrArg List.length hp
    rw [List.length_append] at hlen
    cases post with
    | nil =>
      simp only [List.length_nil] at hlen
      repeat' (first
        | with_reducible (first | refine Rd.p ?_ | refine w_alt ?_ ?_ | refine zE ?_ | refine zE0 ?_)
        | with_reducible (first | refine zI fun y hy => ?_ | refine zL ?_ | refine zS ?_ | refine zA fun _ => ?_ | refine zV ?_ | refine zC ?_ | refine zG ?_ | refine zU ?_ | refine zG0 ?_ | refine zU0 ?_ | refine zF ?_)
        | with_reducible (first | refine zX ?_ | refine zD fun _ => ?_ | refine zD0 ?_ | refine zN ?_ | refine zF0 ?_ | refine zX0 ?_ | refine z1 ?_ | refine z2 ?_ | refine z3 ?_ | refine z4 ?_ | refine z5 ?_ | refine z6 ?_ | refine z7 ?_ | refine z8 ?_ | refine y1 ?_ | refine y2 ?_ | refine y3 ?_ | refine y4 ?_ | refine y5 ?_ | refine y6 ?_ | refine y7 ?_ | refine y8 ?_ | refine Rt.p (fun _ => ?_) fun _ => ?_)
        | ((with_reducible apply w_ixM); (focus exact rfl); (focus exact rfl); case' hk => intro y hy) | ((with_reducible (first | apply w_val | apply q_ends)); (focus exact rfl)))
      rw [hg]; rfl
    | cons l post =>
      simp only [List.length_cons] at hlen
      have hl := h3 l (by rw [hp]; simp)
      simp only [gathsE] at hg
      repeat' (first
        | with_reducible (first | refine Rd.p ?_ | refine w_alt ?_ ?_ | refine zE ?_ | refine zE0 ?_)
        | (refine w_ixP hp rfl rfl ?_)
        | with_reducible (first | refine zI fun y hy => ?_ | refine zL ?_ | refine zS ?_ | refine zA fun _ => ?_ | refine zV ?_ | refine zC ?_ | refine zG ?_ | refine zU ?_ | refine zG0 ?_ | refine zU0 ?_ | refine zF ?_)
        | with_reducible (first | refine zX ?_ | refine zD fun _ => ?_ | refine zD0 ?_ | refine zN ?_ | refine zF0 ?_ | refine zX0 ?_ | refine z1 ?_ | refine z2 ?_ | refine z3 ?_ | refine z4 ?_ | refine z5 ?_ | refine z6 ?_ | refine z7 ?_ | refine z8 ?_ | refine y1 ?_ | refine y2 ?_ | refine y3 ?_ | refine y4 ?_ | refine y5 ?_ | refine y6 ?_ | refine y7 ?_ | refine y8 ?_ | refine Rt.p (fun _ => ?_) fun _ => ?_)
        | ((with_reducible apply w_ixM); (focus exact rfl); (focus exact rfl); case' hk => intro y hy) | ((with_reducible (first | apply w_val | apply q_ends)); (focus exact rfl)))
      · rename_i h; refine congrArg (AV.int .i64) ?_; rw [hg, if_pos (List.length_eq_zero_iff.1 (by omega))]
      rename_i h
      have hl0 : l ≠ [] := fun e => h (by rw [e]; rfl)
      rw [if_neg hl0] at hg
      refine w_loopK [1, 4, 5] [1] (fun x : List Int × List Int => l = x.1 ++ x.2 ∧ gathE [] l = gathE x.1 x.2) (fun x => x.2.length) (fun x => [(6, .int .i64 x.1.length)]) (fun _ => []) ([], l) ⟨rfl, rfl⟩ ⟨rfl, trivial⟩ trivial ?_
      rintro ⟨pr, po⟩ ⟨hq, hr⟩ e σ
      dsimp only at hq hr ⊢
      have hlen2 := congrArg List.length hq
      rw [List.length_append] at hlen2
      cases po with
      | nil =>
        simp only [List.length_nil] at hlen2
        simp only [gathE] at hr
        rw [if_pos hr] at hg
        repeat' (first
          | with_reducible (first | refine Rd.p ?_ | refine w_alt ?_ ?_ | refine zE ?_ | refine zE0 ?_)
          | with_reducible (first | refine zI fun y hy => ?_ | refine zL ?_ | refine zS ?_ | refine zA fun _ => ?_ | refine zV ?_ | refine zC ?_ | refine zG ?_ | refine zU ?_ | refine zG0 ?_ | refine zU0 ?_ | refine zF ?_)
          | with_reducible (first | refine zX ?_ | refine zD fun _ => ?_ | refine zD0 ?_ | refine zN ?_ | refine zF0 ?_ | refine zX0 ?_ | refine z1 ?_ | refine z2 ?_ | refine z3 ?_ | refine z4 ?_ | refine z5 ?_ | refine z6 ?_ | refine z7 ?_ | refine z8 ?_ | refine y1 ?_ | refine y2 ?_ | refine y3 ?_ | refine y4 ?_ | refine y5 ?_ | refine y6 ?_ | refine y7 ?_ | refine y8 ?_ | refine Rt.p (fun _ => ?_) fun _ => ?_)
          | ((with_reducible apply w_ixM); (focus exact rfl); (focus exact rfl); case' hk => intro y hy) | ((with_reducible (first | apply w_val | apply q_ends)); (focus exact rfl)))
        refine zQ (pre ++ [l], post) ?_ ?_
        · exact ⟨by rw [hp]; simp, hg⟩
        · simp
      | cons a po =>
        simp only [List.length_cons] at hlen2
        simp only [gathE] at hr
        repeat' (first
          | with_reducible (first | refine Rd.p ?_ | refine w_alt ?_ ?_ | refine zE ?_ | refine zE0 ?_)
          | (refine w_ixP (pre := pr) (y := a) (post := po) hq rfl rfl ?_)
          | with_reducible (first | refine zI fun y hy => ?_ | refine zL ?_ | refine zS ?_ | refine zA fun _ => ?_ | refine zV ?_ | refine zC ?_ | refine zG ?_ | refine zU ?_ | refine zG0 ?_ | refine zU0 ?_ | refine zF ?_)
          | ((with_reducible refine acall_id ?_); refine ACall.val (rwithin9_c _ _ _) rfl rfl ?_)
          | with_reducible (first | refine zX ?_ | refine zD fun _ => ?_ | refine zD0 ?_ | refine zN ?_ | refine zF0 ?_ | refine zX0 ?_ | refine z1 ?_ | refine z2 ?_ | refine z3 ?_ | refine z4 ?_ | refine z5 ?_ | refine z6 ?_ | refine z7 ?_ | refine z8 ?_ | refine y1 ?_ | refine y2 ?_ | refine y3 ?_ | refine y4 ?_ | refine y5 ?_ | refine y6 ?_ | refine y7 ?_ | refine y8 ?_ | refine Rt.p (fun _ => ?_) fun _ => ?_)
          | ((with_reducible apply w_ixM); (focus exact rfl); (focus exact rfl); case' hk => intro y hy) | ((with_reducible (first | apply w_val | apply q_ends)); (focus exact rfl)))
        · rename_i h6
          rw [if_neg (by simp [h6])] at hr
          rw [hr, if_neg (by decide)] at hg
          rw [hg]; rfl
        rename_i h6
        rw [if_pos h6] at hr
        refine w_loopK [1, 4, 5, 6] [1] (fun x : List Int × List Int => pr = x.1 ++ x.2 ∧ a ∉ x.1) (fun x => x.2.length) (fun x => [(7, .int .i64 x.1.length)]) (fun _ => []) ([], pr) ⟨rfl, by simp⟩ ⟨rfl, trivial⟩ trivial ?_
        rintro ⟨p1, p2⟩ ⟨hpr, hna⟩ e σ
        dsimp only at hpr hna ⊢
        have hlen3 := congrArg List.length hpr
        rw [List.length_append] at hlen3
        cases p2 with
        | nil =>
          simp only [List.length_nil] at hlen3
          rw [List.append_nil] at hpr
          rw [if_neg (fun h => hna (by rw [← hpr]; exact idx_mem.1 h))] at hr
          repeat' (first
            | with_reducible (first | refine Rd.p ?_ | refine w_alt ?_ ?_ | refine zE ?_ | refine zE0 ?_)
            | with_reducible (first | refine zI fun y hy => ?_ | refine zL ?_ | refine zS ?_ | refine zA fun _ => ?_ | refine zV ?_ | refine zC ?_ | refine zG ?_ | refine zU ?_ | refine zG0 ?_ | refine zU0 ?_ | refine zF ?_)
            | with_reducible (first | refine zX ?_ | refine zD fun _ => ?_ | refine zD0 ?_ | refine zN ?_ | refine zF0 ?_ | refine zX0 ?_ | refine z1 ?_ | refine z2 ?_ | refine z3 ?_ | refine z4 ?_ | refine z5 ?_ | refine z6 ?_ | refine z7 ?_ | refine z8 ?_ | refine y1 ?_ | refine y2 ?_ | refine y3 ?_ | refine y4 ?_ | refine y5 ?_ | refine y6 ?_ | refine y7 ?_ | refine y8 ?_ | refine Rt.p (fun _ => ?_) fun _ => ?_)
            | ((with_reducible apply w_ixM); (focus exact rfl); (focus exact rfl); case' hk => intro y hy) | ((with_reducible (first | apply w_val | apply q_ends)); (focus exact rfl)))
          refine zQ (pr ++ [a], po) ?_ ?_
          · exact ⟨by rw [hq]; simp, hr⟩
          · simp
        | cons b p2 =>
          simp only [List.length_cons] at hlen3
          have hq2 : l = p1 ++ b :: (p2 ++ a :: po) := by rw [hq, hpr]; simp
          repeat' (first
            | with_reducible (first | refine Rd.p ?_ | refine w_alt ?_ ?_ | refine zE ?_ | refine zE0 ?_)
            | (refine w_ixP (pre := p1) (y := b) hq2 rfl rfl ?_)
            | (refine w_ixP (pre := pr) (y := a) (post := po) hq rfl rfl ?_)
            | with_reducible (first | refine zI fun y hy => ?_ | refine zL ?_ | refine zS ?_ | refine zA fun _ => ?_ | refine zV ?_ | refine zC ?_ | refine zG ?_ | refine zU ?_ | refine zG0 ?_ | refine zU0 ?_ | refine zF ?_)
            | with_reducible (first | refine zX ?_ | refine zD fun _ => ?_ | refine zD0 ?_ | refine zN ?_ | refine zF0 ?_ | refine zX0 ?_ | refine z1 ?_ | refine z2 ?_ | refine z3 ?_ | refine z4 ?_ | refine z5 ?_ | refine z6 ?_ | refine z7 ?_ | refine z8 ?_ | refine y1 ?_ | refine y2 ?_ | refine y3 ?_ | refine y4 ?_ | refine y5 ?_ | refine y6 ?_ | refine y7 ?_ | refine y8 ?_ | refine Rt.p (fun _ => ?_) fun _ => ?_)
            | ((with_reducible apply w_ixM); (focus exact rfl); (focus exact rfl); case' hk => intro y hy) | ((with_reducible (first | apply w_val | apply q_ends)); (focus exact rfl)))
          · rename_i h
            have h : b = a := h
            have hm : a ∈ pr := by rw [hpr, ← h]; simp
            rw [if_pos (idx_mem.2 hm)] at hr
            rw [hr, if_neg (by decide)] at hg
            rw [hg]; rfl
          · rename_i h
            refine zQ (p1 ++ [b], p2) ?_ ?_
            · exact ⟨by rw [hpr]; simp, by simp only [List.mem_append, List.mem_singleton]; rintro (h1 | h1); exact hna h1; exact h h1.symm⟩
            · simp
theorem rCombination_s (s : Sea) (n : Int) (h1 : s.ss.length < 1000) (h2 : s.gs.length < 1000) (h3 : ∀ l ∈ s.gs, l.length < 1000) :
    Fn0 Try.prog 60 [seA s, .int .i64 n] (fun v => v = if comE s n = 0 then .tup [.slc 1 (iR (comR s.ss n).1) .non, .int .i64 0] else .tup [.nsl, .int .i64 (comE s n)]) := by
  have hck := rcheckS_s s h1 h2 h3
  obtain ⟨E, hE⟩ : ∃ E, E = comE s n := ⟨_, rfl⟩
  rw [← hE]
  rw [comE] at hE
  by_cases he : seaE s = 0
  case neg =>
    rw [if_neg he] at hE
    rw [if_neg (by rw [hE]; exact he), hE]
    refine RawC.walk (H := hint60 Try.prog) ir60 Try.func60 rfl rfl rfl ?_
    unfold ir60
    repeat' (first
      | with_reducible (first | refine Rd.p ?_ | refine w_alt ?_ ?_ | refine zE ?_ | refine zE0 ?_)
      | with_reducible (first | refine zI fun y hy => ?_ | refine zL ?_ | refine zS ?_ | refine zA fun _ => ?_ | refine zV ?_ | refine zC ?_ | refine zG ?_ | refine zU ?_ | refine zG0 ?_ | refine zU0 ?_ | refine zF ?_)
      | ((with_reducible refine acall_id ?_); refine ACall.val hck rfl rfl ?_)
      | with_reducible (first | refine zX ?_ | refine zD fun _ => ?_ | refine zD0 ?_ | refine zN ?_ | refine zF0 ?_ | refine zX0 ?_ | refine z1 ?_ | refine z2 ?_ | refine z3 ?_ | refine z4 ?_ | refine z5 ?_ | refine z6 ?_ | refine z7 ?_ | refine z8 ?_ | refine y1 ?_ | refine y2 ?_ | refine y3 ?_ | refine y4 ?_ | refine y5 ?_ | refine y6 ?_ | refine y7 ?_ | refine y8 ?_ | refine Rt.p (fun _ => ?_) fun _ => ?_)
      | ((with_reducible apply w_ixM); (focus exact rfl); (focus exact rfl); case' hk => intro y hy) | ((with_reducible (first | apply w_val | apply q_ends)); (focus exact rfl)))
    rfl
  rw [if_pos he] at hE
  have ok := okS_of he
  have h4 := ok.s4
  have hcb := combF_bd s.ss.length s.ss rfl ok.s6
  have hcb2 : combF s.ss ≤ 1296 := by
    have : (6 : Int) ^ s.ss.length ≤ 1296 := by
      rcases (by omega : s.ss.length = 0 ∨ s.ss.length = 1 ∨ s.ss.length = 2 ∨ s.ss.length = 3 ∨ s.ss.length = 4) with h | h | h | h | h
      all_goals (rw [h]; decide)
    omega
  rw [he] at hck
  by_cases hi : inB n 0 (combF s.ss - 1) = true
  case neg =>
    rw [if_neg hi] at hE
    rw [if_neg (by rw [hE]; decide), hE]
    refine RawC.walk (H := hint60 Try.prog) ir60 Try.func60 rfl rfl rfl ?_
    unfold ir60
    repeat' (first
      | with_reducible (first | refine Rd.p ?_ | refine w_alt ?_ ?_ | refine zE ?_ | refine zE0 ?_)
      | with_reducible (first | refine zI fun y hy => ?_ | refine zL ?_ | refine zS ?_ | refine zA fun _ => ?_ | refine zV ?_ | refine zC ?_ | refine zG ?_ | refine zU ?_ | refine zG0 ?_ | refine zU0 ?_ | refine zF ?_)
      | ((with_reducible refine acall_id ?_); refine ACall.val hck rfl rfl ?_)
      | ((with_reducible refine acall_id ?_); refine ACall.val (combR_c s ok.s4 ok.s6) rfl rfl ?_)
      | ((with_reducible refine acall_id ?_); refine ACall.val (rwithin9_c _ _ _) rfl rfl ?_)
      | with_reducible (first | refine zX ?_ | refine zD fun _ => ?_ | refine zD0 ?_ | refine zN ?_ | refine zF0 ?_ | refine zX0 ?_ | refine z1 ?_ | refine z2 ?_ | refine z3 ?_ | refine z4 ?_ | refine z5 ?_ | refine z6 ?_ | refine z7 ?_ | refine z8 ?_ | refine y1 ?_ | refine y2 ?_ | refine y3 ?_ | refine y4 ?_ | refine y5 ?_ | refine y6 ?_ | refine y7 ?_ | refine y8 ?_ | refine Rt.p (fun _ => ?_) fun _ => ?_)
      | ((with_reducible apply w_ixM); (focus exact rfl); (focus exact rfl); case' hk => intro y hy) | ((with_reducible (first | apply w_val | apply q_ends)); (focus exact rfl)))
    all_goals first | exact absurd ‹inB n 0 (combF s.ss - 1) = true› hi | rfl
  rw [if_pos hi] at hE
  rw [if_pos hE]
  have hn := inB_t.1 hi
  refine RawC.walk (H := hint60 Try.prog) ir60 Try.func60 rfl rfl rfl ?_
  unfold ir60
  repeat' (first
    | with_reducible (first | refine Rd.p ?_ | refine w_alt ?_ ?_ | refine zE ?_ | refine zE0 ?_)
    | (refine w_mksI (n := s.ss.length) rfl (by omega) ?_; intro _)
    | with_reducible (first | refine zI fun y hy => ?_ | refine zL ?_ | refine zS ?_ | refine zA fun _ => ?_ | refine zV ?_ | refine zC ?_ | refine zG ?_ | refine zU ?_ | refine zG0 ?_ | refine zU0 ?_ | refine zF ?_)
    | ((with_reducible refine acall_id ?_); refine ACall.val hck rfl rfl ?_)
    | ((with_reducible refine acall_id ?_); refine ACall.val (combR_c s ok.s4 ok.s6) rfl rfl ?_)
    | ((with_reducible refine acall_id ?_); refine ACall.val (rwithin9_c _ _ _) rfl rfl ?_)
    | with_reducible (first | refine zX ?_ | refine zD fun _ => ?_ | refine zD0 ?_ | refine zN ?_ | refine zF0 ?_ | refine zX0 ?_ | refine z1 ?_ | refine z2 ?_ | refine z3 ?_ | refine z4 ?_ | refine z5 ?_ | refine z6 ?_ | refine z7 ?_ | refine z8 ?_ | refine y1 ?_ | refine y2 ?_ | refine y3 ?_ | refine y4 ?_ | refine y5 ?_ | refine y6 ?_ | refine y7 ?_ | refine y8 ?_ | refine Rt.p (fun _ => ?_) fun _ => ?_)
    | ((with_reducible apply w_ixM); (focus exact rfl); (focus exact rfl); case' hk => intro y hy) | ((with_reducible (first | apply w_val | apply q_ends)); (focus exact rfl)))
  rename_i g2 g7
  refine w_loopK [2, 7] [2] (fun x : List Int × List Int => s.ss = x.1 ++ x.2) (fun x => x.1.length) (fun x => [(8, .int .i64 ((x.1.length : Int) - 1)), (1, .int .i64 (comR x.2 n).2)]) (fun x => [(23, (g7, .row ((List.replicate x.1.length 0 ++ (comR x.2 n).1).map (AV.int .i64))))]) (s.ss, []) (by simp) ⟨rfl, rfl, trivial⟩ (by exact ⟨by simp [comR]; rfl, trivial⟩) ?_
  rintro ⟨p, q⟩ hpq e σ
  dsimp only at hpq ⊢
  have hlen := congrArg List.length hpq
  rw [List.length_append] at hlen
  have hL := comR_len q n
  have hbq := comR_bd q n (fun x hx => ok.s6 x (by rw [hpq]; simp [hx])) hn.1
  rcases List.eq_nil_or_concat p with rfl | ⟨p', a, rfl⟩
  · rw [List.nil_append] at hpq
    subst hpq
    simp only [List.length_nil] at hlen
    have h0 : ([] : List Int).length = 0 := rfl
    repeat' (first
      | with_reducible (first | refine Rd.p ?_ | refine w_alt ?_ ?_ | refine zE ?_ | refine zE0 ?_)
      | with_reducible (first | refine zI fun y hy => ?_ | refine zL ?_ | refine zS ?_ | refine zA fun _ => ?_ | refine zV ?_ | refine zC ?_ | refine zG ?_ | refine zU ?_ | refine zG0 ?_ | refine zU0 ?_ | refine zF ?_)
      | (refine w_frzI rfl rfl (by simp [hL]) ?_)
      | with_reducible (first | refine zX ?_ | refine zD fun _ => ?_ | refine zD0 ?_ | refine zN ?_ | refine zF0 ?_ | refine zX0 ?_ | refine z1 ?_ | refine z2 ?_ | refine z3 ?_ | refine z4 ?_ | refine z5 ?_ | refine z6 ?_ | refine z7 ?_ | refine z8 ?_ | refine y1 ?_ | refine y2 ?_ | refine y3 ?_ | refine y4 ?_ | refine y5 ?_ | refine y6 ?_ | refine y7 ?_ | refine y8 ?_ | refine Rt.p (fun _ => ?_) fun _ => ?_)
      | ((with_reducible apply w_ixM); (focus exact rfl); (focus exact rfl); case' hk => intro y hy) | ((with_reducible (first | apply w_val | apply q_ends)); (focus exact rfl)))
    rfl
  · rw [List.concat_eq_append] at *
    have hpl : (p' ++ [a]).length = p'.length + 1 := by simp
    rw [hpl] at hlen
    have ha := ok.s6 a (by rw [hpq]; simp)
    have hd := tdiv_bd hbq.1 ha.1
    have hm := tmod_bd hbq.1 ha.1
    repeat' (first
      | with_reducible (first | refine Rd.p ?_ | refine w_alt ?_ ?_ | refine zE ?_ | refine zE0 ?_)
      | (first | refine w_ixP (pre := p') (post := q) (y := a) (by rw [hpq]; simp) rfl (by show AV.int .i64 _ = _; rw [hpl]; refine int_eq ?_; omega) ?_ | refine w_stI rfl rfl rfl (by simp [hL]; omega) ?_)
      | with_reducible (first | refine zI fun y hy => ?_ | refine zL ?_ | refine zS ?_ | refine zA fun _ => ?_ | refine zV ?_ | refine zC ?_ | refine zG ?_ | refine zU ?_ | refine zG0 ?_ | refine zU0 ?_ | refine zF ?_)
      | with_reducible (first | refine zX ?_ | refine zD fun _ => ?_ | refine zD0 ?_ | refine zN ?_ | refine zF0 ?_ | refine zX0 ?_ | refine z1 ?_ | refine z2 ?_ | refine z3 ?_ | refine z4 ?_ | refine z5 ?_ | refine z6 ?_ | refine z7 ?_ | refine z8 ?_ | refine y1 ?_ | refine y2 ?_ | refine y3 ?_ | refine y4 ?_ | refine y5 ?_ | refine y6 ?_ | refine y7 ?_ | refine y8 ?_ | refine Rt.p (fun _ => ?_) fun _ => ?_)
      | ((with_reducible apply w_ixM); (focus exact rfl); (focus exact rfl); case' hk => intro y hy) | ((with_reducible (first | apply w_val | apply q_ends)); (focus exact rfl)))
    refine q_loop (p', a :: q) ?_ ?_ ?_ ?_ (by repeat' (first | exact kept_nil | apply kept_cons | rfl)) (by repeat' (first | exact kept_nil | apply kept_cons | rfl))
    · dsimp only; rw [hpq]; simp
    · simp
    · refine slots_cons ?_ (slots_cons ?_ slots_nil)
      · show AV.int .i64 _ = AV.int .i64 _
        refine int_eq ?_; dsimp only; rw [hpl]; omega
      · rfl
    · refine slots_cons ?_ slots_nil
      show (_, Res.row _) = _
      dsimp only
      rw [hpl]
      refine congrArg (fun z => (g7, Res.row (List.map (AV.int .i64) z))) ?_
      have e1 : (((p'.length + 1 : Nat) : Int) - 1).toNat * 1 = p'.length := by omega
      rw [e1, List.replicate_succ', List.append_assoc, List.set_append_right _ _ (by simp)]
      simp [comR]
end Go.Abs
