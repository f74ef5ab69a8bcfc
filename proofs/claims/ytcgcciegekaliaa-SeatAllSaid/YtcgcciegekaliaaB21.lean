/- A part of the proofs of the laws of this seat: contracts of the functions that they reach, each proved of the program's form in Lean. No condition beyond those that each contract names. -/
import Derived.Test.YtcgcciegekaliaaB0
import Derived.Test.YtcgcciegekaliaaB9
import Derived.Test.YtcgcciegekaliaaB20
import Derived.Test.YtcgcciegekaliaaB10
import Derived.Test.YtcgcciegekaliaaB8
import Derived.Test.YtcgcciegekaliaaB11
set_option linter.unusedVariables false
set_option linter.unusedSimpArgs false
set_option maxRecDepth 20000
set_option maxHeartbeats 4000000
/-! ### Orders, on the reference's side -/
namespace Go.Abs
open Go.Proofs
/-- aloeswood/aloeswoodref08.seat -/
def ir88 : IFn :=
  ⟨19, [(4, none)], (.seq (.ops [⟨(some 4), none, (.mov (.k (.int .i64 0)))⟩])
  (.seq (.seq (.ops [⟨(some 5), none, (.mov (.k (.int .i64 0)))⟩])
  (.blk 0 (.loop (.seq (.seq (.ops [⟨(some 6), none, (.mov (.t 5))⟩,
        ⟨(some 7), none, (.mov (.t 0))⟩,
        ⟨(some 8), none, (.len false (.t 7))⟩,
        ⟨(some 9), none, (.bin .lss (.t 6) (.t 8))⟩])
      (.cnd (.t 9)
        .skip
        (.exit 0)))
      (.seq (.blk 1 (.seq (.ops [⟨(some 12), none, (.mov (.t 0))⟩,
          ⟨(some 13), none, (.mov (.t 5))⟩,
          ⟨(some 14), none, (.ixA 1 (.t 12) (.t 13))⟩,
          ⟨(some 15), none, (.ld 1 false (.t 14))⟩,
          ⟨(some 16), none, (.mov (.t 1))⟩,
          ⟨(some 17), none, (.bin .eql (.t 15) (.t 16))⟩])
        (.cnd (.t 17)
          (.seq (.ops [⟨(some 18), none, (.mov (.t 5))⟩,
            ⟨(some 4), none, (.mov (.t 18))⟩])
          .ret)
          .skip)))
      (.ops [⟨(some 10), none, (.mov (.t 5))⟩,
        ⟨(some 11), none, (.bin .add (.t 10) (.k (.int .i64 1)))⟩,
        ⟨(some 5), none, (.mov (.t 11))⟩]))))))
  (.seq (.ops [⟨(some 4), none, (.mov (.k (.int .i64 (-1))))⟩])
  .ret)))⟩
def hint88 (P : Program) : Hint := {}

/-- aloeswood/aloeswoodref08.Keeps -/
def ir114 : IFn :=
  ⟨94, [(6, none)], (.seq (.ops [⟨(some 3), none, (.box 2 (.t 0))⟩,
    ⟨(some 5), none, (.box 4 (.t 2))⟩,
    ⟨(some 6), none, (.mov (.k (.bool false)))⟩])
  (.seq (.ops [⟨(some 11), none, (.mov (.t 1))⟩,
    ⟨(some 12), none, (.flA 1 (.t 5))⟩,
    ⟨(some 13), none, (.ld 1 false (.t 12))⟩,
    ⟨(some 15), none, (.mov (.t 1))⟩,
    ⟨(some 16), none, (.flA 2 (.t 5))⟩,
    ⟨(some 17), none, (.ld 1 false (.t 16))⟩,
    ⟨(some 14), none, (.callF 88 [(.t 11), (.t 13)])⟩,
    ⟨none, none, (.chk 1 false (.t 16) 17)⟩,
    ⟨(some 18), none, (.callF 88 [(.t 15), (.t 17)])⟩,
    ⟨(some 7), none, (.mov (.t 14))⟩,
    ⟨(some 8), none, (.mov (.t 18))⟩])
  (.seq (.seq (.ops [⟨(some 19), none, (.flA 0 (.t 5))⟩,
    ⟨(some 20), none, (.ld 1 false (.t 19))⟩])
  (.blk 0 (.seq (.ops [⟨(some 22), none, (.bin .eql (.t 20) (.k (.int .i64 1)))⟩,
      ⟨(some 21), none, (.mov (.t 22))⟩])
    (.cnd (.t 21)
      (.seq (.ops [⟨(some 23), none, (.mov (.t 7))⟩,
        ⟨(some 24), none, (.mov (.t 8))⟩,
        ⟨(some 25), none, (.bin .lss (.t 23) (.t 24))⟩,
        ⟨(some 6), none, (.mov (.t 25))⟩])
      .ret)
      (.seq (.ops [⟨(some 27), none, (.bin .eql (.t 20) (.k (.int .i64 2)))⟩,
        ⟨(some 26), none, (.mov (.t 27))⟩])
      (.cnd (.t 26)
        (.seq (.ops [⟨(some 28), none, (.mov (.t 7))⟩,
          ⟨(some 29), none, (.mov (.t 8))⟩,
          ⟨(some 30), none, (.bin .sub (.t 28) (.t 29))⟩,
          ⟨(some 31), none, (.bin .eql (.t 30) (.k (.int .i64 1)))⟩,
          ⟨(some 32), none, (.mov (.t 31))⟩,
          ⟨(some 33), (some (32, false)), (.mov (.t 8))⟩,
          ⟨(some 34), (some (32, false)), (.mov (.t 7))⟩,
          ⟨(some 35), (some (32, false)), (.bin .sub (.t 33) (.t 34))⟩,
          ⟨(some 36), (some (32, false)), (.bin .eql (.t 35) (.k (.int .i64 1)))⟩,
          ⟨(some 37), none, (.pick (.t 32) (.k (.bool true)) (.t 36))⟩,
          ⟨(some 6), none, (.mov (.t 37))⟩])
        .ret)
        (.seq (.ops [⟨(some 39), none, (.bin .eql (.t 20) (.k (.int .i64 3)))⟩,
          ⟨(some 38), none, (.mov (.t 39))⟩])
        (.cnd (.t 38)
          (.seq (.ops [⟨(some 40), none, (.mov (.t 7))⟩,
            ⟨(some 41), none, (.mov (.t 8))⟩,
            ⟨(some 42), none, (.bin .sub (.t 40) (.t 41))⟩,
            ⟨(some 43), none, (.bin .neq (.t 42) (.k (.int .i64 1)))⟩,
            ⟨(some 44), none, (.mov (.t 43))⟩,
            ⟨(some 45), (some (44, true)), (.mov (.t 8))⟩,
            ⟨(some 46), (some (44, true)), (.mov (.t 7))⟩,
            ⟨(some 47), (some (44, true)), (.bin .sub (.t 45) (.t 46))⟩,
            ⟨(some 48), (some (44, true)), (.bin .neq (.t 47) (.k (.int .i64 1)))⟩,
            ⟨(some 49), none, (.pick (.t 44) (.t 48) (.k (.bool false)))⟩,
            ⟨(some 6), none, (.mov (.t 49))⟩])
          .ret)
          (.seq (.ops [⟨(some 51), none, (.bin .eql (.t 20) (.k (.int .i64 4)))⟩,
            ⟨(some 50), none, (.mov (.t 51))⟩])
          (.cnd (.t 50)
            (.seq (.ops [⟨(some 52), none, (.mov (.t 7))⟩,
              ⟨(some 53), none, (.bin .eql (.t 52) (.k (.int .i64 0)))⟩,
              ⟨(some 6), none, (.mov (.t 53))⟩])
            .ret)
            (.seq (.ops [⟨(some 55), none, (.bin .eql (.t 20) (.k (.int .i64 5)))⟩,
              ⟨(some 54), none, (.mov (.t 55))⟩])
            (.cnd (.t 54)
              (.seq (.ops [⟨(some 56), none, (.mov (.t 7))⟩,
                ⟨(some 57), none, (.mov (.t 1))⟩,
                ⟨(some 58), none, (.len false (.t 57))⟩,
                ⟨(some 59), none, (.bin .sub (.t 58) (.k (.int .i64 1)))⟩,
                ⟨(some 60), none, (.bin .eql (.t 56) (.t 59))⟩,
                ⟨(some 6), none, (.mov (.t 60))⟩])
              .ret)
              .skip))))))))))))
  (.seq (.seq (.ops [⟨(some 9), none, (.mov (.k (.int .i64 0)))⟩])
  (.blk 1 (.loop (.seq (.seq (.ops [⟨(some 61), none, (.mov (.t 9))⟩,
        ⟨(some 62), none, (.mov (.t 1))⟩,
        ⟨(some 63), none, (.len false (.t 62))⟩,
        ⟨(some 64), none, (.bin .lss (.t 61) (.t 63))⟩])
      (.cnd (.t 64)
        .skip
        (.exit 1)))
      (.seq (.blk 2 (.seq (.ops [⟨(some 67), none, (.mov (.t 9))⟩,
          ⟨(some 68), none, (.bin .add (.t 67) (.k (.int .i64 1)))⟩,
          ⟨(some 10), none, (.mov (.t 68))⟩])
        (.blk 3 (.loop (.seq (.seq (.ops [⟨(some 69), none, (.mov (.t 10))⟩,
              ⟨(some 70), none, (.mov (.t 1))⟩,
              ⟨(some 71), none, (.len false (.t 70))⟩,
              ⟨(some 72), none, (.bin .lss (.t 69) (.t 71))⟩])
            (.cnd (.t 72)
              .skip
              (.exit 3)))
            (.seq (.blk 4 (.seq (.ops [⟨(some 75), none, (.flA 0 (.t 3))⟩,
                ⟨(some 76), none, (.ld 1 false (.t 75))⟩,
                ⟨(some 77), none, (.mov (.t 1))⟩,
                ⟨(some 78), none, (.mov (.t 10))⟩,
                ⟨(some 79), none, (.ixA 1 (.t 77) (.t 78))⟩,
                ⟨(some 80), none, (.ld 1 false (.t 79))⟩,
                ⟨(some 81), none, (.ixA 5 (.t 76) (.t 80))⟩,
                ⟨(some 82), none, (.flA 1 (.t 81))⟩,
                ⟨(some 83), none, (.ld 1 false (.t 82))⟩,
                ⟨(some 84), none, (.flA 0 (.t 3))⟩,
                ⟨(some 85), none, (.ld 1 false (.t 84))⟩,
                ⟨(some 86), none, (.mov (.t 1))⟩,
                ⟨(some 87), none, (.mov (.t 9))⟩,
                ⟨(some 88), none, (.ixA 1 (.t 86) (.t 87))⟩,
                ⟨(some 89), none, (.ld 1 false (.t 88))⟩,
                ⟨(some 90), none, (.ixA 5 (.t 85) (.t 89))⟩,
                ⟨(some 91), none, (.flA 1 (.t 90))⟩,
                ⟨(some 92), none, (.ld 1 false (.t 91))⟩,
                ⟨(some 93), none, (.bin .gtr (.t 83) (.t 92))⟩])
              (.cnd (.t 93)
                (.seq (.ops [⟨(some 6), none, (.mov (.k (.bool false)))⟩])
                .ret)
                .skip)))
            (.ops [⟨(some 73), none, (.mov (.t 10))⟩,
              ⟨(some 74), none, (.bin .add (.t 73) (.k (.int .i64 1)))⟩,
              ⟨(some 10), none, (.mov (.t 74))⟩])))))))
      (.ops [⟨(some 65), none, (.mov (.t 9))⟩,
        ⟨(some 66), none, (.bin .add (.t 65) (.k (.int .i64 1)))⟩,
        ⟨(some 9), none, (.mov (.t 66))⟩]))))))
  (.seq (.ops [⟨(some 6), none, (.mov (.k (.bool true)))⟩])
  .ret)))))⟩
def hint114 (P : Program) : Hint := {}

theorem rseat_c (l : List Int) (g : Int) (hl : l.length < 1000000) : Fn0 Try.prog 88 [.slc 1 (iR l) .non, .int .i64 g] (fun v => v = .int .i64 (idxI l g)) := by
  refine RawC.walk (H := hint88 Try.prog) ir88 Try.func88 rfl rfl rfl ?_
  unfold ir88
  repeat' (first
    | with_reducible (first | refine Rd.p ?_ | refine zE ?_ | refine zE0 ?_)
    | with_reducible (first | refine zI fun y hy => ?_ | refine zL ?_ | refine zS ?_ | refine zA fun _ => ?_ | refine zV ?_ | refine zC ?_ | refine zG ?_ | refine zU ?_ | refine zG0 ?_ | refine zU0 ?_ | refine zF ?_)
    | with_reducible (first | refine zX ?_ | refine zD fun _ => ?_ | refine zD0 ?_ | refine zN ?_ | refine zF0 ?_ | refine zX0 ?_ | refine z1 ?_ | refine z2 ?_ | refine z3 ?_ | refine z4 ?_ | refine z5 ?_ | refine z6 ?_ | refine z7 ?_ | refine z8 ?_ | refine y1 ?_ | refine y2 ?_ | refine y3 ?_ | refine y4 ?_ | refine y5 ?_ | refine y6 ?_ | refine y7 ?_ | refine y8 ?_ | refine Rt.p (fun _ => ?_) fun _ => ?_)
    | ((with_reducible apply w_ixM); (focus exact rfl); (focus exact rfl); case' hk => intro y hy) | ((with_reducible (first | apply w_val | apply q_ends)); (focus exact rfl)))
  refine w_loopK [0, 1] [] (fun x : List Int × List Int => l = x.1 ++ x.2 ∧ idxI l g = idxF' g x.1.length x.2) (fun x => x.2.length) (fun x => [(5, .int .i64 x.1.length)]) (fun _ => []) ([], l) ⟨rfl, rfl⟩ ⟨rfl, trivial⟩ trivial ?_
  rintro ⟨pre, post⟩ ⟨hl, hb⟩ e σ
  dsimp only at hl hb ⊢
  have hlen := congrArg List.length hl
  cases post with
  | nil =>
    simp only [List.append_nil, List.length_append, List.length_nil] at hlen
    repeat' (first
      | with_reducible (first | refine Rd.p ?_ | refine zE ?_ | refine zE0 ?_)
      | with_reducible (first | refine zI fun y hy => ?_ | refine zL ?_ | refine zS ?_ | refine zA fun _ => ?_ | refine zV ?_ | refine zC ?_ | refine zG ?_ | refine zU ?_ | refine zG0 ?_ | refine zU0 ?_ | refine zF ?_)
      | with_reducible (first | refine zX ?_ | refine zD fun _ => ?_ | refine zD0 ?_ | refine zN ?_ | refine zF0 ?_ | refine zX0 ?_ | refine z1 ?_ | refine z2 ?_ | refine z3 ?_ | refine z4 ?_ | refine z5 ?_ | refine z6 ?_ | refine z7 ?_ | refine z8 ?_ | refine y1 ?_ | refine y2 ?_ | refine y3 ?_ | refine y4 ?_ | refine y5 ?_ | refine y6 ?_ | refine y7 ?_ | refine y8 ?_ | refine Rt.p (fun _ => ?_) fun _ => ?_)
      | ((with_reducible apply w_ixM); (focus exact rfl); (focus exact rfl); case' hk => intro y hy) | ((with_reducible (first | apply w_val | apply q_ends)); (focus exact rfl)))
    rw [hb]; rfl
  | cons x post =>
    simp only [List.length_append, List.length_cons] at hlen
    simp only [idxF'] at hb
    repeat' (first
      | with_reducible (first | refine Rd.p ?_ | refine zE ?_ | refine zE0 ?_)
      | (refine w_ixP hl rfl rfl ?_)
      | with_reducible (first | refine zI fun y hy => ?_ | refine zL ?_ | refine zS ?_ | refine zA fun _ => ?_ | refine zV ?_ | refine zC ?_ | refine zG ?_ | refine zU ?_ | refine zG0 ?_ | refine zU0 ?_ | refine zF ?_)
      | with_reducible (first | refine zX ?_ | refine zD fun _ => ?_ | refine zD0 ?_ | refine zN ?_ | refine zF0 ?_ | refine zX0 ?_ | refine z1 ?_ | refine z2 ?_ | refine z3 ?_ | refine z4 ?_ | refine z5 ?_ | refine z6 ?_ | refine z7 ?_ | refine z8 ?_ | refine y1 ?_ | refine y2 ?_ | refine y3 ?_ | refine y4 ?_ | refine y5 ?_ | refine y6 ?_ | refine y7 ?_ | refine y8 ?_ | refine Rt.p (fun _ => ?_) fun _ => ?_)
      | ((with_reducible apply w_ixM); (focus exact rfl); (focus exact rfl); case' hk => intro y hy) | ((with_reducible (first | apply w_val | apply q_ends)); (focus exact rfl)))
    · rename_i h
      rw [if_pos h] at hb
      rw [hb]; rfl
    · rename_i h
      rw [if_neg h] at hb
      refine zQ (pre ++ [x], post) ?_ ?_
      · exact ⟨by rw [hl]; simp, by rw [hb, len_snoc]⟩
      · simp
theorem rKeeps_c (gs : List Guest) (rs : List Rule) (l : List Int) (r : Rule) (hr : rOK r gs.length) (h : isPerm gs.length l) (hg : gs.length < 1000) :
    Fn0 Try.prog 114 [pA gs rs, .slc 1 (iR l) .non, rA r] (fun v => v = .bool (keepsB gs (atL l) r)) := by
  obtain ⟨k, a, b, wt⟩ := r
  have hk := hr.kind
  have ha := hr.a
  have hb := hr.b
  dsimp only at hk ha hb
  have hl := h.len
  have ba : -1 ≤ idxI l a ∧ idxI l a < 1000 := by have := idxF'_bd a 0 l; have h2 : idxI l a = idxF' a 0 l := rfl; omega
  have bb : -1 ≤ idxI l b ∧ idxI l b < 1000 := by have := idxF'_bd b 0 l; have h2 : idxI l b = idxF' b 0 l := rfl; omega
  have hsa := rseat_c l a (by omega)
  have hsb := rseat_c l b (by omega)
  have h0 : k = 1 ∨ k = 2 ∨ k = 3 ∨ k = 4 ∨ k = 5 ∨ k = 6 := by omega
  have hxl := atL_len l
  rcases h0 with rfl | rfl | rfl | rfl | rfl | rfl
  · have e1 := at_idx h (ha (by omega))
    have e2 := at_idx h (hb (by omega))
    change Fn0 Try.prog _ [pA gs rs, .slc 1 (iR l) .non, .agg [.int .i64 1, .int .i64 a, .int .i64 b, .int .i64 wt]] _
    have ek : keepsB gs (atL l) ⟨1, a, b, wt⟩ = decide (idxI l a < idxI l b) := by simp only [keepsB]; rw [e1, e2]; rfl
    rw [ek]
    generalize idxI l a = xa at *
    generalize idxI l b = xb at *
    refine RawC.walk (H := hint114 Try.prog) ir114 Try.func114 rfl rfl rfl ?_
    unfold ir114
    repeat' (first
      | with_reducible (first | refine Rd.p ?_ | refine zE ?_ | refine zE0 ?_)
      | with_reducible (first | refine zI fun y hy => ?_ | refine zL ?_ | refine zS ?_ | refine zA fun _ => ?_ | refine zV ?_ | refine zC ?_ | refine zG ?_ | refine zU ?_ | refine zG0 ?_ | refine zU0 ?_ | refine zF ?_)
      | ((with_reducible refine acall_id ?_); refine ACall.val hsa rfl rfl ?_)
      | ((with_reducible refine acall_id ?_); refine ACall.val hsb rfl rfl ?_)
      | with_reducible (first | refine zX ?_ | refine zD fun _ => ?_ | refine zD0 ?_ | refine zN ?_ | refine zF0 ?_ | refine zX0 ?_ | refine z1 ?_ | refine z2 ?_ | refine z3 ?_ | refine z4 ?_ | refine z5 ?_ | refine z6 ?_ | refine z7 ?_ | refine z8 ?_ | refine y1 ?_ | refine y2 ?_ | refine y3 ?_ | refine y4 ?_ | refine y5 ?_ | refine y6 ?_ | refine y7 ?_ | refine y8 ?_ | refine Rt.p (fun _ => ?_) fun _ => ?_)
      | ((with_reducible apply w_ixM); (focus exact rfl); (focus exact rfl); case' hk => intro y hy) | ((with_reducible (first | apply w_val | apply q_ends)); (focus exact rfl)))
    all_goals (refine congrArg AV.bool ?_; first | rfl | (symm; simp; omega) | trace_state)
  · have e1 := at_idx h (ha (by omega))
    have e2 := at_idx h (hb (by omega))
    change Fn0 Try.prog _ [pA gs rs, .slc 1 (iR l) .non, .agg [.int .i64 2, .int .i64 a, .int .i64 b, .int .i64 wt]] _
    have ek : keepsB gs (atL l) ⟨2, a, b, wt⟩ = decide (max (idxI l a - idxI l b) (idxI l b - idxI l a) = 1) := by simp only [keepsB]; rw [e1, e2]; rfl
    rw [ek]
    generalize idxI l a = xa at *
    generalize idxI l b = xb at *
    refine RawC.walk (H := hint114 Try.prog) ir114 Try.func114 rfl rfl rfl ?_
    unfold ir114
    repeat' (first
      | with_reducible (first | refine Rd.p ?_ | refine zE ?_ | refine zE0 ?_)
      | with_reducible (first | refine zI fun y hy => ?_ | refine zL ?_ | refine zS ?_ | refine zA fun _ => ?_ | refine zV ?_ | refine zC ?_ | refine zG ?_ | refine zU ?_ | refine zG0 ?_ | refine zU0 ?_ | refine zF ?_)
      | ((with_reducible refine acall_id ?_); refine ACall.val hsa rfl rfl ?_)
      | ((with_reducible refine acall_id ?_); refine ACall.val hsb rfl rfl ?_)
      | with_reducible (first | refine zX ?_ | refine zD fun _ => ?_ | refine zD0 ?_ | refine zN ?_ | refine zF0 ?_ | refine zX0 ?_ | refine z1 ?_ | refine z2 ?_ | refine z3 ?_ | refine z4 ?_ | refine z5 ?_ | refine z6 ?_ | refine z7 ?_ | refine z8 ?_ | refine y1 ?_ | refine y2 ?_ | refine y3 ?_ | refine y4 ?_ | refine y5 ?_ | refine y6 ?_ | refine y7 ?_ | refine y8 ?_ | refine Rt.p (fun _ => ?_) fun _ => ?_)
      | ((with_reducible apply w_ixM); (focus exact rfl); (focus exact rfl); case' hk => intro y hy) | ((with_reducible (first | apply w_val | apply q_ends)); (focus exact rfl)))
    all_goals (refine congrArg AV.bool ?_; first | rfl | (symm; simp; omega) | trace_state)
  · have e1 := at_idx h (ha (by omega))
    have e2 := at_idx h (hb (by omega))
    change Fn0 Try.prog _ [pA gs rs, .slc 1 (iR l) .non, .agg [.int .i64 3, .int .i64 a, .int .i64 b, .int .i64 wt]] _
    have ek : keepsB gs (atL l) ⟨3, a, b, wt⟩ = !decide (max (idxI l a - idxI l b) (idxI l b - idxI l a) = 1) := by simp only [keepsB]; rw [e1, e2]; rfl
    rw [ek]
    generalize idxI l a = xa at *
    generalize idxI l b = xb at *
    refine RawC.walk (H := hint114 Try.prog) ir114 Try.func114 rfl rfl rfl ?_
    unfold ir114
    repeat' (first
      | with_reducible (first | refine Rd.p ?_ | refine zE ?_ | refine zE0 ?_)
      | with_reducible (first | refine zI fun y hy => ?_ | refine zL ?_ | refine zS ?_ | refine zA fun _ => ?_ | refine zV ?_ | refine zC ?_ | refine zG ?_ | refine zU ?_ | refine zG0 ?_ | refine zU0 ?_ | refine zF ?_)
      | ((with_reducible refine acall_id ?_); refine ACall.val hsa rfl rfl ?_)
      | ((with_reducible refine acall_id ?_); refine ACall.val hsb rfl rfl ?_)
      | with_reducible (first | refine zX ?_ | refine zD fun _ => ?_ | refine zD0 ?_ | refine zN ?_ | refine zF0 ?_ | refine zX0 ?_ | refine z1 ?_ | refine z2 ?_ | refine z3 ?_ | refine z4 ?_ | refine z5 ?_ | refine z6 ?_ | refine z7 ?_ | refine z8 ?_ | refine y1 ?_ | refine y2 ?_ | refine y3 ?_ | refine y4 ?_ | refine y5 ?_ | refine y6 ?_ | refine y7 ?_ | refine y8 ?_ | refine Rt.p (fun _ => ?_) fun _ => ?_)
      | ((with_reducible apply w_ixM); (focus exact rfl); (focus exact rfl); case' hk => intro y hy) | ((with_reducible (first | apply w_val | apply q_ends)); (focus exact rfl)))
    all_goals (refine congrArg AV.bool ?_; first | rfl | (symm; simp; omega) | trace_state)
  · have e1 := at_idx h (ha (by omega))
    change Fn0 Try.prog _ [pA gs rs, .slc 1 (iR l) .non, .agg [.int .i64 4, .int .i64 a, .int .i64 b, .int .i64 wt]] _
    have ek : keepsB gs (atL l) ⟨4, a, b, wt⟩ = decide (idxI l a = 0) := by simp only [keepsB]; rw [e1]; rfl
    rw [ek]
    generalize idxI l a = xa at *
    generalize idxI l b = xb at *
    refine RawC.walk (H := hint114 Try.prog) ir114 Try.func114 rfl rfl rfl ?_
    unfold ir114
    repeat' (first
      | with_reducible (first | refine Rd.p ?_ | refine zE ?_ | refine zE0 ?_)
      | with_reducible (first | refine zI fun y hy => ?_ | refine zL ?_ | refine zS ?_ | refine zA fun _ => ?_ | refine zV ?_ | refine zC ?_ | refine zG ?_ | refine zU ?_ | refine zG0 ?_ | refine zU0 ?_ | refine zF ?_)
      | ((with_reducible refine acall_id ?_); refine ACall.val hsa rfl rfl ?_)
      | ((with_reducible refine acall_id ?_); refine ACall.val hsb rfl rfl ?_)
      | with_reducible (first | refine zX ?_ | refine zD fun _ => ?_ | refine zD0 ?_ | refine zN ?_ | refine zF0 ?_ | refine zX0 ?_ | refine z1 ?_ | refine z2 ?_ | refine z3 ?_ | refine z4 ?_ | refine z5 ?_ | refine z6 ?_ | refine z7 ?_ | refine z8 ?_ | refine y1 ?_ | refine y2 ?_ | refine y3 ?_ | refine y4 ?_ | refine y5 ?_ | refine y6 ?_ | refine y7 ?_ | refine y8 ?_ | refine Rt.p (fun _ => ?_) fun _ => ?_)
      | ((with_reducible apply w_ixM); (focus exact rfl); (focus exact rfl); case' hk => intro y hy) | ((with_reducible (first | apply w_val | apply q_ends)); (focus exact rfl)))
    all_goals (refine congrArg AV.bool ?_; first | rfl | (symm; simp; omega) | trace_state)
  · have e1 := at_idx h (ha (by omega))
    change Fn0 Try.prog _ [pA gs rs, .slc 1 (iR l) .non, .agg [.int .i64 5, .int .i64 a, .int .i64 b, .int .i64 wt]] _
    have ek : keepsB gs (atL l) ⟨5, a, b, wt⟩ = decide (idxI l a = l.length - 1) := by simp only [keepsB]; rw [e1, hxl]; rfl
    rw [ek]
    generalize idxI l a = xa at *
    generalize idxI l b = xb at *
    refine RawC.walk (H := hint114 Try.prog) ir114 Try.func114 rfl rfl rfl ?_
    unfold ir114
    repeat' (first
      | with_reducible (first | refine Rd.p ?_ | refine zE ?_ | refine zE0 ?_)
      | with_reducible (first | refine zI fun y hy => ?_ | refine zL ?_ | refine zS ?_ | refine zA fun _ => ?_ | refine zV ?_ | refine zC ?_ | refine zG ?_ | refine zU ?_ | refine zG0 ?_ | refine zU0 ?_ | refine zF ?_)
      | ((with_reducible refine acall_id ?_); refine ACall.val hsa rfl rfl ?_)
      | ((with_reducible refine acall_id ?_); refine ACall.val hsb rfl rfl ?_)
      | with_reducible (first | refine zX ?_ | refine zD fun _ => ?_ | refine zD0 ?_ | refine zN ?_ | refine zF0 ?_ | refine zX0 ?_ | refine z1 ?_ | refine z2 ?_ | refine z3 ?_ | refine z4 ?_ | refine z5 ?_ | refine z6 ?_ | refine z7 ?_ | refine z8 ?_ | refine y1 ?_ | refine y2 ?_ | refine y3 ?_ | refine y4 ?_ | refine y5 ?_ | refine y6 ?_ | refine y7 ?_ | refine y8 ?_ | refine Rt.p (fun _ => ?_) fun _ => ?_)
      | ((with_reducible apply w_ixM); (focus exact rfl); (focus exact rfl); case' hk => intro y hy) | ((with_reducible (first | apply w_val | apply q_ends)); (focus exact rfl)))
    all_goals (refine congrArg AV.bool ?_; first | rfl | (symm; simp; omega) | trace_state)
  · change Fn0 Try.prog _ [pA gs rs, .slc 1 (iR l) .non, .agg [.int .i64 6, .int .i64 a, .int .i64 b, .int .i64 wt]] _
    have ek : keepsB gs (atL l) ⟨6, a, b, wt⟩ = rankB gs (atL l) := rfl
    rw [ek]
    have hro := rankB_order h
    have hgb : ∀ i : Nat, i < gs.length → 0 ≤ getI l i ∧ getI l i < gs.length := fun i hi => by rw [getI_nat (by omega)]; exact h.bd _ (List.getElem_mem _)
    have hrk : ∀ {i : Nat} {y : Guest}, gs[i]? = some y → rankAt gs i = y.rank := fun h => by simp [rankAt, keepsB.rankAt, h]
    generalize idxI l a = xa at *
    generalize idxI l b = xb at *
    refine RawC.walk (H := hint114 Try.prog) ir114 Try.func114 rfl rfl rfl ?_
    unfold ir114
    repeat' (first
      | with_reducible (first | refine Rd.p ?_ | refine zE ?_ | refine zE0 ?_)
      | with_reducible (first | refine zI fun y hy => ?_ | refine zL ?_ | refine zS ?_ | refine zA fun _ => ?_ | refine zV ?_ | refine zC ?_ | refine zG ?_ | refine zU ?_ | refine zG0 ?_ | refine zU0 ?_ | refine zF ?_)
      | ((with_reducible refine acall_id ?_); refine ACall.val hsa rfl rfl ?_)
      | ((with_reducible refine acall_id ?_); refine ACall.val hsb rfl rfl ?_)
      | with_reducible (first | refine zX ?_ | refine zD fun _ => ?_ | refine zD0 ?_ | refine zN ?_ | refine zF0 ?_ | refine zX0 ?_ | refine z1 ?_ | refine z2 ?_ | refine z3 ?_ | refine z4 ?_ | refine z5 ?_ | refine z6 ?_ | refine z7 ?_ | refine z8 ?_ | refine y1 ?_ | refine y2 ?_ | refine y3 ?_ | refine y4 ?_ | refine y5 ?_ | refine y6 ?_ | refine y7 ?_ | refine y8 ?_ | refine Rt.p (fun _ => ?_) fun _ => ?_)
      | ((with_reducible apply w_ixM); (focus exact rfl); (focus exact rfl); case' hk => intro y hy) | ((with_reducible (first | apply w_val | apply q_ends)); (focus exact rfl)))
    refine w_loopK [1, 3] [3] (fun i : Nat => i ≤ gs.length ∧ ∀ i' k : Nat, i' < i → i' < k → k < gs.length → ¬ rankAt gs (getI l i').toNat < rankAt gs (getI l k).toNat) (fun i => gs.length - i) (fun i => [(9, .int .i64 i)]) (fun _ => []) 0 ⟨Nat.zero_le _, fun i' k h => absurd h (Nat.not_lt_zero _)⟩ ⟨rfl, trivial⟩ trivial ?_
    rintro i ⟨hi, hb⟩ e σ
    by_cases hi2 : i < gs.length
    case neg =>
      repeat' (first
        | with_reducible (first | refine Rd.p ?_ | refine zE ?_ | refine zE0 ?_)
        | with_reducible (first | refine zI fun y hy => ?_ | refine zL ?_ | refine zS ?_ | refine zA fun _ => ?_ | refine zV ?_ | refine zC ?_ | refine zG ?_ | refine zU ?_ | refine zG0 ?_ | refine zU0 ?_ | refine zF ?_)
        | with_reducible (first | refine zX ?_ | refine zD fun _ => ?_ | refine zD0 ?_ | refine zN ?_ | refine zF0 ?_ | refine zX0 ?_ | refine z1 ?_ | refine z2 ?_ | refine z3 ?_ | refine z4 ?_ | refine z5 ?_ | refine z6 ?_ | refine z7 ?_ | refine z8 ?_ | refine y1 ?_ | refine y2 ?_ | refine y3 ?_ | refine y4 ?_ | refine y5 ?_ | refine y6 ?_ | refine y7 ?_ | refine y8 ?_ | refine Rt.p (fun _ => ?_) fun _ => ?_)
        | ((with_reducible apply w_ixM); (focus exact rfl); (focus exact rfl); case' hk => intro y hy) | ((with_reducible (first | apply w_val | apply q_ends)); (focus exact rfl)))
      refine congrArg AV.bool (Eq.symm ?_)
      exact hro.2 fun i' k h1 h2 => hb i' k (by omega) h1 h2
    have hgi := hgb i hi2
    repeat' (first
      | with_reducible (first | refine Rd.p ?_ | refine zE ?_ | refine zE0 ?_)
      | with_reducible (first | refine zI fun y hy => ?_ | refine zL ?_ | refine zS ?_ | refine zA fun _ => ?_ | refine zV ?_ | refine zC ?_ | refine zG ?_ | refine zU ?_ | refine zG0 ?_ | refine zU0 ?_ | refine zF ?_)
      | with_reducible (first | refine zX ?_ | refine zD fun _ => ?_ | refine zD0 ?_ | refine zN ?_ | refine zF0 ?_ | refine zX0 ?_ | refine z1 ?_ | refine z2 ?_ | refine z3 ?_ | refine z4 ?_ | refine z5 ?_ | refine z6 ?_ | refine z7 ?_ | refine z8 ?_ | refine y1 ?_ | refine y2 ?_ | refine y3 ?_ | refine y4 ?_ | refine y5 ?_ | refine y6 ?_ | refine y7 ?_ | refine y8 ?_ | refine Rt.p (fun _ => ?_) fun _ => ?_)
      | ((with_reducible apply w_ixM); (focus exact rfl); (focus exact rfl); case' hk => intro y hy) | ((with_reducible (first | apply w_val | apply q_ends)); (focus exact rfl)))
    refine w_loopK [1, 3, 9] [3] (fun k : Nat => i < k ∧ k ≤ gs.length ∧ ∀ k' : Nat, i < k' → k' < k → ¬ rankAt gs (getI l i).toNat < rankAt gs (getI l k').toNat) (fun k => gs.length - k) (fun k => [(10, .int .i64 k)]) (fun _ => []) (i + 1) ⟨by omega, by omega, fun k' h1 h2 => absurd h1 (by omega)⟩ ⟨rfl, trivial⟩ trivial ?_
    rintro k ⟨hk1, hk2, hb1⟩ e2 σ2
    by_cases hk3 : k < gs.length
    case neg =>
      repeat' (first
        | with_reducible (first | refine Rd.p ?_ | refine zE ?_ | refine zE0 ?_)
        | with_reducible (first | refine zI fun y hy => ?_ | refine zL ?_ | refine zS ?_ | refine zA fun _ => ?_ | refine zV ?_ | refine zC ?_ | refine zG ?_ | refine zU ?_ | refine zG0 ?_ | refine zU0 ?_ | refine zF ?_)
        | with_reducible (first | refine zX ?_ | refine zD fun _ => ?_ | refine zD0 ?_ | refine zN ?_ | refine zF0 ?_ | refine zX0 ?_ | refine z1 ?_ | refine z2 ?_ | refine z3 ?_ | refine z4 ?_ | refine z5 ?_ | refine z6 ?_ | refine z7 ?_ | refine z8 ?_ | refine y1 ?_ | refine y2 ?_ | refine y3 ?_ | refine y4 ?_ | refine y5 ?_ | refine y6 ?_ | refine y7 ?_ | refine y8 ?_ | refine Rt.p (fun _ => ?_) fun _ => ?_)
        | ((with_reducible apply w_ixM); (focus exact rfl); (focus exact rfl); case' hk => intro y hy) | ((with_reducible (first | apply w_val | apply q_ends)); (focus exact rfl)))
      refine zQ (i + 1) ?_ ?_
      · refine ⟨by omega, fun i' k' h1 h2 h3 => ?_⟩
        by_cases h4 : i' < i
        · exact hb i' k' h4 h2 h3
        · obtain rfl : i' = i := by omega
          exact hb1 k' h2 (by omega)
      · omega
    have hgk := hgb k hk3
    repeat' (first
      | with_reducible (first | refine Rd.p ?_ | refine zE ?_ | refine zE0 ?_)
      | with_reducible refine zGi ?_
      | with_reducible (first | refine zI fun y hy => ?_ | refine zL ?_ | refine zS ?_ | refine zA fun _ => ?_ | refine zV ?_ | refine zC ?_ | refine zG ?_ | refine zU ?_ | refine zG0 ?_ | refine zU0 ?_ | refine zF ?_)
      | with_reducible (first | refine zX ?_ | refine zD fun _ => ?_ | refine zD0 ?_ | refine zN ?_ | refine zF0 ?_ | refine zX0 ?_ | refine z1 ?_ | refine z2 ?_ | refine z3 ?_ | refine z4 ?_ | refine z5 ?_ | refine z6 ?_ | refine z7 ?_ | refine z8 ?_ | refine y1 ?_ | refine y2 ?_ | refine y3 ?_ | refine y4 ?_ | refine y5 ?_ | refine y6 ?_ | refine y7 ?_ | refine y8 ?_ | refine Rt.p (fun _ => ?_) fun _ => ?_)
      | ((with_reducible apply w_ixM); (focus exact rfl); (focus exact rfl); case' hk => intro y hy) | ((with_reducible (first | apply w_val | apply q_ends)); (focus exact rfl)))
    · rename_i y1 h1 h3
      refine congrArg AV.bool (Eq.symm ?_)
      rw [← hrk h1, ← hrk hy] at h3
      rw [Bool.eq_false_iff]
      intro hc
      exact hro.1 hc i k hk1 hk3 (by omega)
    · rename_i y1 h1 h3
      rw [← hrk h1, ← hrk hy] at h3
      refine zQ (k + 1) ?_ ?_
      · refine ⟨by omega, by omega, fun k' h4 h5 => ?_⟩
        by_cases h6 : k' < k
        · exact hb1 k' h4 h6
        · obtain rfl : k' = k := by omega
          omega
      · omega
end Go.Abs
