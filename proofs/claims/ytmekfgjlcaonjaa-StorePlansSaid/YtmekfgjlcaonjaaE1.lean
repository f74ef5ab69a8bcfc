/- A part of the proofs of the laws of this seat: contracts of the functions that they reach, each proved of the program's form in Lean. No condition beyond those that each contract names. -/
import Derived.Test.YtmekfgjlcaonjaaC14
import Derived.Test.YtmekfgjlcaonjaaC13
import Derived.Test.YtmekfgjlcaonjaaC12
import Derived.Test.YtmekfgjlcaonjaaC11
import Derived.Test.YtmekfgjlcaonjaaC10
import Derived.Test.YtmekfgjlcaonjaaC9
import Derived.Test.YtmekfgjlcaonjaaC8
import Derived.Test.YtmekfgjlcaonjaaC7
import Derived.Test.YtmekfgjlcaonjaaC5
import Derived.Test.YtmekfgjlcaonjaaC4
import Derived.Test.YtmekfgjlcaonjaaC2
import Derived.Test.YtmekfgjlcaonjaaC1
import Derived.Test.YtmekfgjlcaonjaaB
set_option linter.unusedVariables false
set_option linter.unusedSimpArgs false
set_option maxRecDepth 20000
set_option maxHeartbeats 4000000
namespace Go.Abs
open Go.Proofs
/-- aloeswood/aloeswoodref09.within -/
def ir83 : IFn :=
  ⟨15, [(6, none)], (.seq (.ops [⟨(some 6), none, (.mov (.k (.bool false)))⟩])
  (.seq (.ops [⟨(some 7), none, (.mov (.t 1))⟩,
    ⟨(some 8), none, (.mov (.t 0))⟩,
    ⟨(some 9), none, (.bin .leq (.t 7) (.t 8))⟩,
    ⟨(some 10), none, (.mov (.t 9))⟩,
    ⟨(some 11), (some (10, true)), (.mov (.t 0))⟩,
    ⟨(some 12), (some (10, true)), (.mov (.t 2))⟩,
    ⟨(some 13), (some (10, true)), (.bin .leq (.t 11) (.t 12))⟩,
    ⟨(some 14), none, (.pick (.t 10) (.t 13) (.k (.bool false)))⟩,
    ⟨(some 6), none, (.mov (.t 14))⟩])
  .ret))⟩
def hint83 (P : Program) : Hint := {}
/-- aloeswood/aloeswoodref09.CheckSeason -/
def ir63 : IFn :=
  ⟨75, [(2, none)], (.seq (.ops [⟨(some 1), none, (.box 2 (.t 0))⟩,
    ⟨(some 2), none, (.mov (.k (.int .i64 0)))⟩])
  (.seq (.seq (.ops [⟨(some 8), none, (.flA 0 (.t 1))⟩,
    ⟨(some 9), none, (.ld 1 false (.t 8))⟩,
    ⟨(some 10), none, (.len false (.t 9))⟩,
    ⟨(some 11), none, (.bin .eql (.t 10) (.k (.int .i64 0)))⟩])
  (.cnd (.t 11)
    (.seq (.ops [⟨(some 2), none, (.mov (.k (.int .i64 6)))⟩])
    .ret)
    .skip))
  (.seq (.seq (.ops [⟨(some 12), none, (.flA 0 (.t 1))⟩,
    ⟨(some 13), none, (.ld 1 false (.t 12))⟩,
    ⟨(some 14), none, (.len false (.t 13))⟩,
    ⟨(some 15), none, (.bin .gtr (.t 14) (.k (.int .i64 4)))⟩])
  (.cnd (.t 15)
    (.seq (.ops [⟨(some 2), none, (.mov (.k (.int .i64 8)))⟩])
    .ret)
    .skip))
  (.seq (.seq (.ops [⟨(some 3), none, (.mov (.k (.int .i64 0)))⟩])
  (.blk 0 (.loop (.seq (.seq (.ops [⟨(some 16), none, (.mov (.t 3))⟩,
        ⟨(some 17), none, (.flA 0 (.t 1))⟩,
        ⟨(some 18), none, (.ld 1 false (.t 17))⟩,
        ⟨(some 19), none, (.len false (.t 18))⟩,
        ⟨(some 20), none, (.bin .lss (.t 16) (.t 19))⟩])
      (.cnd (.t 20)
        .skip
        (.exit 0)))
      (.seq (.blk 1 (.seq (.ops [⟨(some 23), none, (.flA 0 (.t 1))⟩,
          ⟨(some 24), none, (.ld 1 false (.t 23))⟩,
          ⟨(some 25), none, (.mov (.t 3))⟩,
          ⟨(some 26), none, (.ixA 1 (.t 24) (.t 25))⟩,
          ⟨(some 27), none, (.ld 1 false (.t 26))⟩,
          ⟨(some 28), none, (.callF 83 [(.t 27), (.k (.int .i64 1)), (.k (.int .i64 6))])⟩,
          ⟨(some 29), none, (.not (.t 28))⟩])
        (.cnd (.t 29)
          (.seq (.ops [⟨(some 2), none, (.mov (.k (.int .i64 2)))⟩])
          .ret)
          .skip)))
      (.ops [⟨(some 21), none, (.mov (.t 3))⟩,
        ⟨(some 22), none, (.bin .add (.t 21) (.k (.int .i64 1)))⟩,
        ⟨(some 3), none, (.mov (.t 22))⟩]))))))
  (.seq (.seq (.ops [⟨(some 30), none, (.flA 1 (.t 1))⟩,
    ⟨(some 31), none, (.ld 1 false (.t 30))⟩,
    ⟨(some 32), none, (.len false (.t 31))⟩,
    ⟨(some 33), none, (.bin .gtr (.t 32) (.k (.int .i64 9)))⟩])
  (.cnd (.t 33)
    (.seq (.ops [⟨(some 2), none, (.mov (.k (.int .i64 8)))⟩])
    .ret)
    .skip))
  (.seq (.seq (.ops [⟨(some 4), none, (.mov (.k (.int .i64 0)))⟩])
  (.blk 2 (.loop (.seq (.seq (.ops [⟨(some 34), none, (.mov (.t 4))⟩,
        ⟨(some 35), none, (.flA 1 (.t 1))⟩,
        ⟨(some 36), none, (.ld 1 false (.t 35))⟩,
        ⟨(some 37), none, (.len false (.t 36))⟩,
        ⟨(some 38), none, (.bin .lss (.t 34) (.t 37))⟩])
      (.cnd (.t 38)
        .skip
        (.exit 2)))
      (.seq (.blk 3 (.seq (.ops [⟨(some 41), none, (.flA 1 (.t 1))⟩,
          ⟨(some 42), none, (.ld 1 false (.t 41))⟩,
          ⟨(some 43), none, (.mov (.t 4))⟩,
          ⟨(some 44), none, (.ixA 1 (.t 42) (.t 43))⟩,
          ⟨(some 45), none, (.ld 1 false (.t 44))⟩,
          ⟨(some 5), none, (.mov (.t 45))⟩])
        (.seq (.seq (.ops [⟨(some 46), none, (.mov (.t 5))⟩,
          ⟨(some 47), none, (.len false (.t 46))⟩,
          ⟨(some 48), none, (.bin .eql (.t 47) (.k (.int .i64 0)))⟩])
        (.cnd (.t 48)
          (.seq (.ops [⟨(some 2), none, (.mov (.k (.int .i64 6)))⟩])
          .ret)
          .skip))
        (.seq (.ops [⟨(some 6), none, (.mov (.k (.int .i64 0)))⟩])
        (.blk 4 (.loop (.seq (.seq (.ops [⟨(some 49), none, (.mov (.t 6))⟩,
              ⟨(some 50), none, (.mov (.t 5))⟩,
              ⟨(some 51), none, (.len false (.t 50))⟩,
              ⟨(some 52), none, (.bin .lss (.t 49) (.t 51))⟩])
            (.cnd (.t 52)
              .skip
              (.exit 4)))
            (.seq (.blk 5 (.seq (.seq (.ops [⟨(some 55), none, (.mov (.t 5))⟩,
                ⟨(some 56), none, (.mov (.t 6))⟩,
                ⟨(some 57), none, (.ixA 1 (.t 55) (.t 56))⟩,
                ⟨(some 58), none, (.ld 1 false (.t 57))⟩,
                ⟨(some 59), none, (.callF 83 [(.t 58), (.k (.int .i64 0)), (.k (.int .i64 11))])⟩,
                ⟨(some 60), none, (.not (.t 59))⟩])
              (.cnd (.t 60)
                (.seq (.ops [⟨(some 2), none, (.mov (.k (.int .i64 2)))⟩])
                .ret)
                .skip))
              (.seq (.ops [⟨(some 7), none, (.mov (.k (.int .i64 0)))⟩])
              (.blk 6 (.loop (.seq (.seq (.ops [⟨(some 61), none, (.mov (.t 7))⟩,
                    ⟨(some 62), none, (.mov (.t 6))⟩,
                    ⟨(some 63), none, (.bin .lss (.t 61) (.t 62))⟩])
                  (.cnd (.t 63)
                    .skip
                    (.exit 6)))
                  (.seq (.blk 7 (.seq (.ops [⟨(some 66), none, (.mov (.t 5))⟩,
                      ⟨(some 67), none, (.mov (.t 7))⟩,
                      ⟨(some 68), none, (.ixA 1 (.t 66) (.t 67))⟩,
                      ⟨(some 69), none, (.ld 1 false (.t 68))⟩,
                      ⟨(some 70), none, (.mov (.t 5))⟩,
                      ⟨(some 71), none, (.mov (.t 6))⟩,
                      ⟨(some 72), none, (.ixA 1 (.t 70) (.t 71))⟩,
                      ⟨(some 73), none, (.ld 1 false (.t 72))⟩,
                      ⟨(some 74), none, (.bin .eql (.t 69) (.t 73))⟩])
                    (.cnd (.t 74)
                      (.seq (.ops [⟨(some 2), none, (.mov (.k (.int .i64 9)))⟩])
                      .ret)
                      .skip)))
                  (.ops [⟨(some 64), none, (.mov (.t 7))⟩,
                    ⟨(some 65), none, (.bin .add (.t 64) (.k (.int .i64 1)))⟩,
                    ⟨(some 7), none, (.mov (.t 65))⟩]))))))))
            (.ops [⟨(some 53), none, (.mov (.t 6))⟩,
              ⟨(some 54), none, (.bin .add (.t 53) (.k (.int .i64 1)))⟩,
              ⟨(some 6), none, (.mov (.t 54))⟩])))))))))
      (.ops [⟨(some 39), none, (.mov (.t 4))⟩,
        ⟨(some 40), none, (.bin .add (.t 39) (.k (.int .i64 1)))⟩,
        ⟨(some 4), none, (.mov (.t 40))⟩]))))))
  (.seq (.ops [⟨(some 2), none, (.mov (.k (.int .i64 0)))⟩])
  .ret)))))))⟩
def hint63 (P : Program) : Hint := {}
theorem rwithin9_c (n a b : Int) : Fn0 Try.prog 83 [.int .i64 n, .int .i64 a, .int .i64 b] (fun v => v = .bool (inB n a b)) := by
  refine RawC.walk (H := hint83 Try.prog) ir83 Try.func83 rfl rfl rfl ?_
  unfold ir83
  repeat' (first
    | with_reducible (first | refine Rd.p ?_ | refine w_alt ?_ ?_ | refine zE ?_ | refine zE0 ?_)
    | with_reducible (first | refine zI fun y hy => ?_ | refine zL ?_ | refine zS ?_ | refine zA fun _ => ?_ | refine zV ?_ | refine zC ?_ | refine zG ?_ | refine zU ?_ | refine zG0 ?_ | refine zU0 ?_ | refine zF ?_)
    | with_reducible (first | refine zX ?_ | refine zD fun _ => ?_ | refine zD0 ?_ | refine zN ?_ | refine zF0 ?_ | refine zX0 ?_ | refine z1 ?_ | refine z2 ?_ | refine z3 ?_ | refine z4 ?_ | refine z5 ?_ | refine z6 ?_ | refine z7 ?_ | refine z8 ?_ | refine y1 ?_ | refine y2 ?_ | refine y3 ?_ | refine y4 ?_ | refine y5 ?_ | refine y6 ?_ | refine y7 ?_ | refine y8 ?_ | refine Rt.p (fun _ => ?_) fun _ => ?_)
    | ((with_reducible apply w_ixM); (focus exact rfl); (focus exact rfl); case' hk => intro y hy) | ((with_reducible (first | apply w_val | apply q_ends)); (focus exact rfl)))
  all_goals (refine congrArg AV.bool ?_; unfold inB; first | (symm; rw [decide_eq_true_eq]; omega) | (symm; rw [decide_eq_false_iff_not]; omega) | (simp; omega))
theorem rcheckS_s (s : Sea) (h1 : s.ss.length < 1000) (h2 : s.gs.length < 1000) (h3 : ∀ l ∈ s.gs, l.length < 1000) : Fn0 Try.prog 63 [seA s] (fun v => v = .int .i64 (seaE s)) := by
  refine RawC.walk (H := hint63 Try.prog) ir63 Try.func63 rfl rfl rfl ?_
  unfold ir63
  repeat' (first
    | with_reducible (first | refine Rd.p ?_ | refine w_alt ?_ ?_ | refine zE ?_ | refine zE0 ?_)
    | with_reducible (first | refine zI fun y hy => ?_ | refine zL ?_ | refine zS ?_ | refine zA fun _ => ?_ | refine zV ?_ | refine zC ?_ | refine zG ?_ | refine zU ?_ | refine zG0 ?_ | refine zU0 ?_ | refine zF ?_)
    | with_reducible (first | refine zX ?_ | refine zD fun _ => ?_ | refine zD0 ?_ | refine zN ?_ | refine zF0 ?_ | refine zX0 ?_ | refine z1 ?_ | refine z2 ?_ | refine z3 ?_ | refine z4 ?_ | refine z5 ?_ | refine z6 ?_ | refine z7 ?_ | refine z8 ?_ | refine y1 ?_ | refine y2 ?_ | refine y3 ?_ | refine y4 ?_ | refine y5 ?_ | refine y6 ?_ | refine y7 ?_ | refine y8 ?_ | refine Rt.p (fun _ => ?_) fun _ => ?_)
    | ((with_reducible apply w_ixM); (focus exact rfl); (focus exact rfl); case' hk => intro y hy) | ((with_reducible (first | apply w_val | apply q_ends)); (focus exact rfl)))
  · rename_i h; refine congrArg (AV.int .i64) ?_; rw [seaE, if_pos (List.length_eq_zero_iff.1 (by omega))]
  · rename_i h0 h; refine congrArg (AV.int .i64) ?_; rw [seaE, if_neg (fun e => h0 (by rw [e]; rfl)), if_pos (by omega)]
  rename_i g1 h0 h4
  have hne : s.ss ≠ [] := fun e => h0 (by rw [e]; rfl)
  refine w_loopK [1] [1] (fun x : List Int × List Int => s.ss = x.1 ++ x.2 ∧ sortsB x.1 = true) (fun x => x.2.length) (fun x => [(3, .int .i64 x.1.length)]) (fun _ => []) ([], s.ss) ⟨rfl, rfl⟩ ⟨rfl, trivial⟩ trivial ?_
  rintro ⟨pre, post⟩ ⟨hp, hb⟩ e σ
  dsimp only at hp hb ⊢
  have hlen := congrArg List.length hp
  rw [List.length_append] at hlen
  cases post with
  | cons d post =>
    simp only [List.length_cons] at hlen
    repeat' (first
      | with_reducible (first | refine Rd.p ?_ | refine w_alt ?_ ?_ | refine zE ?_ | refine zE0 ?_)
      | (refine w_ixP hp rfl rfl ?_)
      | with_reducible (first | refine zI fun y hy => ?_ | refine zL ?_ | refine zS ?_ | refine zA fun _ => ?_ | refine zV ?_ | refine zC ?_ | refine zG ?_ | refine zU ?_ | refine zG0 ?_ | refine zU0 ?_ | refine zF ?_)
      | ((with_reducible refine acall_id ?_); refine ACall.val (rwithin9_c _ _ _) rfl rfl ?_)
      | with_reducible (first | refine zX ?_ | refine zD fun _ => ?_ | refine zD0 ?_ | refine zN ?_ | refine zF0 ?_ | refine zX0 ?_ | refine z1 ?_ | refine z2 ?_ | refine z3 ?_ | refine z4 ?_ | refine z5 ?_ | refine z6 ?_ | refine z7 ?_ | refine z8 ?_ | refine y1 ?_ | refine y2 ?_ | refine y3 ?_ | refine y4 ?_ | refine y5 ?_ | refine y6 ?_ | refine y7 ?_ | refine y8 ?_ | refine Rt.p (fun _ => ?_) fun _ => ?_)
      | ((with_reducible apply w_ixM); (focus exact rfl); (focus exact rfl); case' hk => intro y hy) | ((with_reducible (first | apply w_val | apply q_ends)); (focus exact rfl)))
    · rename_i h
      refine congrArg (AV.int .i64) ?_
      have : sortsB s.ss = false := by rw [hp]; simp [sortsB, h]
      rw [seaE, if_neg hne, if_neg (by omega), if_neg (by simp [this])]
    · rename_i h
      refine zQ (pre ++ [d], post) ?_ ?_
      · exact ⟨by rw [hp]; simp, by simp only [sortsB, List.all_append, Bool.and_eq_true] at hb ⊢; exact ⟨hb, by simp [h]⟩⟩
      · simp
  | nil =>
    rw [List.append_nil] at hp
    subst hp
    simp only [List.length_nil] at hlen
    have hs0 : seaE s = if 9 < s.gs.length then 8 else gathsE s.gs := by rw [seaE, if_neg hne, if_neg (by omega), if_pos hb]
    repeat' (first
      | with_reducible (first | refine Rd.p ?_ | refine w_alt ?_ ?_ | refine zE ?_ | refine zE0 ?_)
      | with_reducible (first | refine zI fun y hy => ?_ | refine zL ?_ | refine zS ?_ | refine zA fun _ => ?_ | refine zV ?_ | refine zC ?_ | refine zG ?_ | refine zU ?_ | refine zG0 ?_ | refine zU0 ?_ | refine zF ?_)
      | with_reducible (first | refine zX ?_ | refine zD fun _ => ?_ | refine zD0 ?_ | refine zN ?_ | refine zF0 ?_ | refine zX0 ?_ | refine z1 ?_ | refine z2 ?_ | refine z3 ?_ | refine z4 ?_ | refine z5 ?_ | refine z6 ?_ | refine z7 ?_ | refine z8 ?_ | refine y1 ?_ | refine y2 ?_ | refine y3 ?_ | refine y4 ?_ | refine y5 ?_ | refine y6 ?_ | refine y7 ?_ | refine y8 ?_ | refine Rt.p (fun _ => ?_) fun _ => ?_)
      | ((with_reducible apply w_ixM); (focus exact rfl); (focus exact rfl); case' hk => intro y hy) | ((with_reducible (first | apply w_val | apply q_ends)); (focus exact rfl)))
    · rename_i h; refine congrArg (AV.int .i64) ?_; rw [hs0, if_pos (by omega)]
    rename_i h9
    rw [if_neg (by omega)] at hs0
    rw [hs0]
    refine w_loopK [1] [1] (fun x : List (List Int) × List (List Int) => s.gs = x.1 ++ x.2 ∧ gathsE s.gs = gathsE x.2) (fun x => x.2.length) (fun x => [(4, .int .i64 x.1.length)]) (fun _ => []) ([], s.gs) ⟨rfl, rfl⟩ ⟨rfl, trivial⟩ trivial ?_
    rintro ⟨pre, post⟩ ⟨hp, hg⟩ e σ
    dsimp only at hp hg ⊢
    have hlen := congrArg List.length hp
    rw [List.length_append] at hlen
    cases post with
    | nil =>
      simp only [List.length_nil] at hlen
      repeat' (first
        | with_reducible (first | refine Rd.p ?_ | refine w_alt ?_ ?_ | refine zE ?_ | refine zE0 ?_)
        | with_reducible (first | refine zI fun y hy => ?_ | refine zL ?_ | refine zS ?_ | refine zA fun _ => ?_ | refine zV ?_ | refine zC ?_ | refine zG ?_ | refine zU ?_ | refine zG0 ?_ | refine zU0 ?_ | refine zF ?_)
        | with_reducible (first | refine zX ?_ | refine zD fun _ => ?_ | refine zD0 ?_ | refine zN ?_ | refine zF0 ?_ | refine zX0 ?_ | refine z1 ?_ | refine z2 ?_ | refine z3 ?_ | refine z4 ?_ | refine z5 ?_ | refine z6 ?_ | refine z7 ?_ | refine z8 ?_ | refine y1 ?_ | refine y2 ?_ | refine y3 ?_ | refine y4 ?_ | refine y5 ?_ | refine y6 ?_ | refine y7 ?_ | refine y8 ?_ | refine Rt.p (fun _ => ?_) fun _ => ?_)
        | ((with_reducible apply w_ixM); (focus exact rfl); (focus exact rfl); case' hk => intro y hy) | ((with_reducible (first | apply w_val | apply q_ends)); (focus exact rfl)))
      rw [hg]; rfl
    | cons l post =>
      simp only [List.length_cons] at hlen
      have hl := h3 l (by rw [hp]; simp)
      simp only [gathsE] at hg
      repeat' (first
        | with_reducible (first | refine Rd.p ?_ | refine w_alt ?_ ?_ | refine zE ?_ | refine zE0 ?_)
        | (refine w_ixP hp rfl rfl ?_)
        | with_reducible (first | refine zI fun y hy => ?_ | refine zL ?_ | refine zS ?_ | refine zA fun _ => ?_ | refine zV ?_ | refine zC ?_ | refine zG ?_ | refine zU ?_ | refine zG0 ?_ | refine zU0 ?_ | refine zF ?_)
        | with_reducible (first | refine zX ?_ | refine zD fun _ => ?_ | refine zD0 ?_ | refine zN ?_ | refine zF0 ?_ | refine zX0 ?_ | refine z1 ?_ | refine z2 ?_ | refine z3 ?_ | refine z4 ?_ | refine z5 ?_ | refine z6 ?_ | refine z7 ?_ | refine z8 ?_ | refine y1 ?_ | refine y2 ?_ | refine y3 ?_ | refine y4 ?_ | refine y5 ?_ | refine y6 ?_ | refine y7 ?_ | refine y8 ?_ | refine Rt.p (fun _ => ?_) fun _ => ?_)
        | ((with_reducible apply w_ixM); (focus exact rfl); (focus exact rfl); case' hk => intro y hy) | ((with_reducible (first | apply w_val | apply q_ends)); (focus exact rfl)))
      · rename_i h; refine congrArg (AV.int .i64) ?_; rw [hg, if_pos (List.length_eq_zero_iff.1 (by omega))]
      rename_i h
      have hl0 : l ≠ [] := fun e => h (by rw [e]; rfl)
      rw [if_neg hl0] at hg
      refine w_loopK [1, 4, 5] [1] (fun x : List Int × List Int => l = x.1 ++ x.2 ∧ gathE [] l = gathE x.1 x.2) (fun x => x.2.length) (fun x => [(6, .int .i64 x.1.length)]) (fun _ => []) ([], l) ⟨rfl, rfl⟩ ⟨rfl, trivial⟩ trivial ?_
      rintro ⟨pr, po⟩ ⟨hq, hr⟩ e σ
      dsimp only at hq hr ⊢
      have hlen2 := congrArg List.length hq
      rw [List.length_append] at hlen2
      cases po with
      | nil =>
        simp only [List.length_nil] at hlen2
        simp only [gathE] at hr
        rw [if_pos hr] at hg
        repeat' (first
          | with_reducible (first | refine Rd.p ?_ | refine w_alt ?_ ?_ | refine zE ?_ | refine zE0 ?_)
          | with_reducible (first | refine zI fun y hy => ?_ | refine zL ?_ | refine zS ?_ | refine zA fun _ => ?_ | refine zV ?_ | refine zC ?_ | refine zG ?_ | refine zU ?_ | refine zG0 ?_ | refine zU0 ?_ | refine zF ?_)
          | with_reducible (first | refine zX ?_ | refine zD fun _ => ?_ | refine zD0 ?_ | refine zN ?_ | refine zF0 ?_ | refine zX0 ?_ | refine z1 ?_ | refine z2 ?_ | refine z3 ?_ | refine z4 ?_ | refine z5 ?_ | refine z6 ?_ | refine z7 ?_ | refine z8 ?_ | refine y1 ?_ | refine y2 ?_ | refine y3 ?_ | refine y4 ?_ | refine y5 ?_ | refine y6 ?_ | refine y7 ?_ | refine y8 ?_ | refine Rt.p (fun _ => ?_) fun _ => ?_)
          | ((with_reducible apply w_ixM); (focus exact rfl); (focus exact rfl); case' hk => intro y hy) | ((with_reducible (first | apply w_val | apply q_ends)); (focus exact rfl)))
        refine zQ (pre ++ [l], post) ?_ ?_
        · exact ⟨by rw [hp]; simp, hg⟩
        · simp
      | cons a po =>
        simp only [List.length_cons] at hlen2
        simp only [gathE] at hr
        repeat' (first
          | with_reducible (first | refine Rd.p ?_ | refine w_alt ?_ ?_ | refine zE ?_ | refine zE0 ?_)
          | (refine w_ixP (pre := pr) (y := a) (post := po) hq rfl rfl ?_)
          | with_reducible (first | refine zI fun y hy => ?_ | refine zL ?_ | refine zS ?_ | refine zA fun _ => ?_ | refine zV ?_ | refine zC ?_ | refine zG ?_ | refine zU ?_ | refine zG0 ?_ | refine zU0 ?_ | refine zF ?_)
          | ((with_reducible refine acall_id ?_); refine ACall.val (rwithin9_c _ _ _) rfl rfl ?_)
          | with_reducible (first | refine zX ?_ | refine zD fun _ => ?_ | refine zD0 ?_ | refine zN ?_ | refine zF0 ?_ | refine zX0 ?_ | refine z1 ?_ | refine z2 ?_ | refine z3 ?_ | refine z4 ?_ | refine z5 ?_ | refine z6 ?_ | refine z7 ?_ | refine z8 ?_ | refine y1 ?_ | refine y2 ?_ | refine y3 ?_ | refine y4 ?_ | refine y5 ?_ | refine y6 ?_ | refine y7 ?_ | refine y8 ?_ | refine Rt.p (fun _ => ?_) fun _ => ?_)
          | ((with_reducible apply w_ixM); (focus exact rfl); (focus exact rfl); case' hk => intro y hy) | ((with_reducible (first | apply w_val | apply q_ends)); (focus exact rfl)))
        · rename_i h6
          rw [if_neg (by simp [h6])] at hr
          rw [hr, if_neg (by decide)] at hg
          rw [hg]; rfl
        rename_i h6
        rw [if_pos h6] at hr
        refine w_loopK [1, 4, 5, 6] [1] (fun x : List Int × List Int => pr = x.1 ++ x.2 ∧ a ∉ x.1) (fun x => x.2.length) (fun x => [(7, .int .i64 x.1.length)]) (fun _ => []) ([], pr) ⟨rfl, by simp⟩ ⟨rfl, trivial⟩ trivial ?_
        rintro ⟨p1, p2⟩ ⟨hpr, hna⟩ e σ
        dsimp only at hpr hna ⊢
        have hlen3 := congrArg List.length hpr
        rw [List.length_append] at hlen3
        cases p2 with
        | nil =>
          simp only [List.length_nil] at hlen3
          rw [List.append_nil] at hpr
          rw [if_neg (fun h => hna (by rw [← hpr]; exact idx_mem.1 h))] at hr
          repeat' (first
            | with_reducible (first | refine Rd.p ?_ | refine w_alt ?_ ?_ | refine zE ?_ | refine zE0 ?_)
            | with_reducible (first | refine zI fun y hy => ?_ | refine zL ?_ | refine zS ?_ | refine zA fun _ => ?_ | refine zV ?_ | refine zC ?_ | refine zG ?_ | refine zU ?_ | refine zG0 ?_ | refine zU0 ?_ | refine zF ?_)
            | with_reducible (first | refine zX ?_ | refine zD fun _ => ?_ | refine zD0 ?_ | refine zN ?_ | refine zF0 ?_ | refine zX0 ?_ | refine z1 ?_ | refine z2 ?_ | refine z3 ?_ | refine z4 ?_ | refine z5 ?_ | refine z6 ?_ | refine z7 ?_ | refine z8 ?_ | refine y1 ?_ | refine y2 ?_ | refine y3 ?_ | refine y4 ?_ | refine y5 ?_ | refine y6 ?_ | refine y7 ?_ | refine y8 ?_ | refine Rt.p (fun _ => ?_) fun _ => ?_)
            | ((with_reducible apply w_ixM); (focus exact rfl); (focus exact rfl); case' hk => intro y hy) | ((with_reducible (first | apply w_val | apply q_ends)); (focus exact rfl)))
          refine zQ (pr ++ [a], po) ?_ ?_
          · exact ⟨by rw [hq]; simp, hr⟩
          · simp
        | cons b p2 =>
          simp only [List.length_cons] at hlen3
          have hq2 : l = p1 ++ b :: (p2 ++ a :: po) := by rw [hq, hpr]; simp
          repeat' (first
            | with_reducible (first | refine Rd.p ?_ | refine w_alt ?_ ?_ | refine zE ?_ | refine zE0 ?_)
            | (refine w_ixP (pre := p1) (y := b) hq2 rfl rfl ?_)
            | (refine w_ixP (pre := pr) (y := a) (post := po) hq rfl rfl ?_)
            | with_reducible (first | refine zI fun y hy => ?_ | refine zL ?_ | refine zS ?_ | refine zA fun _ => ?_ | refine zV ?_ | refine zC ?_ | refine zG ?_ | refine zU ?_ | refine zG0 ?_ | refine zU0 ?_ | refine zF ?_)
            | with_reducible (first | refine zX ?_ | refine zD fun _ => ?_ | refine zD0 ?_ | refine zN ?_ | refine zF0 ?_ | refine zX0 ?_ | refine z1 ?_ | refine z2 ?_ | refine z3 ?_ | refine z4 ?_ | refine z5 ?_ | refine z6 ?_ | refine z7 ?_ | refine z8 ?_ | refine y1 ?_ | refine y2 ?_ | refine y3 ?_ | refine y4 ?_ | refine y5 ?_ | refine y6 ?_ | refine y7 ?_ | refine y8 ?_ | refine Rt.p (fun _ => ?_) fun _ => ?_)
            | ((with_reducible apply w_ixM); (focus exact rfl); (focus exact rfl); case' hk => intro y hy) | ((with_reducible (first | apply w_val | apply q_ends)); (focus exact rfl)))
          · rename_i h
            have h : b = a := h
            have hm : a ∈ pr := by rw [hpr, ← h]; simp
            rw [if_pos (idx_mem.2 hm)] at hr
            rw [hr, if_neg (by decide)] at hg
            rw [hg]; rfl
          · rename_i h
            refine zQ (p1 ++ [b], p2) ?_ ?_
            · exact ⟨by rw [hpr]; simp, by simp only [List.mem_append, List.mem_singleton]; rintro (h1 | h1); exact hna h1; exact h h1.symm⟩
            · simp
end Go.Abs
