/- A part of the proofs of the laws of this seat: contracts of the functions that they reach, each proved of the program's form in Lean. No condition beyond those that each contract names. -/
import Derived.Test.YtcgcciegekaliaaB26
set_option linter.unusedVariables false
set_option linter.unusedSimpArgs false
set_option maxRecDepth 20000
set_option maxHeartbeats 4000000
/-! ### Sure, the reference's -/
namespace Go.Abs
open Go.Proofs
/-- aloeswood/aloeswoodref08.Sure -/
def ir46 : IFn :=
  ⟨78, [(2, none), (3, none)], (.seq (.ops [⟨(some 1), none, (.box 2 (.t 0))⟩,
    ⟨(some 2), none, (.mov (.k .nsl))⟩,
    ⟨(some 3), none, (.mov (.k (.int .i64 0)))⟩])
  (.seq (.seq (.ops [⟨(some 12), none, (.ld 2 true (.t 1))⟩,
    ⟨(some 13), none, (.callF 40 [(.t 12)])⟩,
    ⟨(some 4), none, (.mov (.t 13))⟩])
  (.seq (.ops [⟨(some 14), none, (.mov (.t 4))⟩,
    ⟨(some 15), none, (.bin .neq (.t 14) (.k (.int .i64 0)))⟩])
  (.cnd (.t 15)
    (.seq (.ops [⟨(some 16), none, (.mov (.t 4))⟩,
      ⟨(some 2), none, (.mov (.k .nsl))⟩,
      ⟨(some 3), none, (.mov (.t 16))⟩])
    .ret)
    .skip)))
  (.seq (.ops [⟨(some 17), none, (.ld 2 true (.t 1))⟩,
    ⟨(some 18), none, (.callF 93 [(.t 17)])⟩,
    ⟨(some 5), none, (.mov (.t 18))⟩])
  (.seq (.seq (.ops [⟨(some 19), none, (.mov (.t 5))⟩,
    ⟨(some 20), none, (.len false (.t 19))⟩,
    ⟨(some 21), none, (.bin .eql (.t 20) (.k (.int .i64 0)))⟩])
  (.cnd (.t 21)
    (.seq (.ops [⟨(some 2), none, (.mov (.k .nsl))⟩,
      ⟨(some 3), none, (.mov (.k (.int .i64 12)))⟩])
    .ret)
    .skip))
  (.seq (.ops [⟨(some 6), none, (.nil 1 6)⟩])
  (.seq (.seq (.ops [⟨(some 7), none, (.mov (.k (.int .i64 0)))⟩])
  (.blk 0 (.loop (.seq (.seq (.ops [⟨(some 22), none, (.mov (.t 7))⟩,
        ⟨(some 23), none, (.flA 0 (.t 1))⟩,
        ⟨(some 24), none, (.ld 1 false (.t 23))⟩,
        ⟨(some 25), none, (.len false (.t 24))⟩,
        ⟨(some 26), none, (.bin .lss (.t 22) (.t 25))⟩])
      (.cnd (.t 26)
        .skip
        (.exit 0)))
      (.seq (.blk 1 (.seq (.ops [⟨(some 8), none, (.nil 1 8)⟩])
        (.seq (.seq (.ops [⟨(some 9), none, (.mov (.k (.int .i64 0)))⟩])
        (.blk 2 (.loop (.seq (.seq (.ops [⟨(some 29), none, (.mov (.t 9))⟩,
              ⟨(some 30), none, (.flA 0 (.t 1))⟩,
              ⟨(some 31), none, (.ld 1 false (.t 30))⟩,
              ⟨(some 32), none, (.len false (.t 31))⟩,
              ⟨(some 33), none, (.bin .lss (.t 29) (.t 32))⟩])
            (.cnd (.t 33)
              .skip
              (.exit 2)))
            (.seq (.blk 3 (.seq (.ops [⟨(some 10), none, (.mov (.k (.int .i64 0)))⟩])
              (.seq (.seq (.ops [⟨(some 11), none, (.mov (.k (.int .i64 0)))⟩])
              (.blk 4 (.loop (.seq (.seq (.ops [⟨(some 36), none, (.mov (.t 11))⟩,
                    ⟨(some 37), none, (.mov (.t 5))⟩,
                    ⟨(some 38), none, (.len false (.t 37))⟩,
                    ⟨(some 39), none, (.bin .lss (.t 36) (.t 38))⟩])
                  (.cnd (.t 39)
                    .skip
                    (.exit 4)))
                  (.seq (.blk 5 (.seq (.ops [⟨(some 42), none, (.mov (.t 5))⟩,
                      ⟨(some 43), none, (.mov (.t 11))⟩,
                      ⟨(some 44), none, (.ixA 1 (.t 42) (.t 43))⟩,
                      ⟨(some 45), none, (.ld 1 false (.t 44))⟩,
                      ⟨(some 46), none, (.mov (.t 7))⟩,
                      ⟨(some 48), none, (.mov (.t 5))⟩,
                      ⟨(some 49), none, (.mov (.t 11))⟩,
                      ⟨(some 50), none, (.ixA 1 (.t 48) (.t 49))⟩,
                      ⟨(some 51), none, (.ld 1 false (.t 50))⟩,
                      ⟨(some 52), none, (.mov (.t 9))⟩,
                      ⟨(some 47), none, (.callF 88 [(.t 45), (.t 46)])⟩,
                      ⟨none, none, (.chk 1 false (.t 50) 51)⟩,
                      ⟨(some 53), none, (.callF 88 [(.t 51), (.t 52)])⟩,
                      ⟨(some 54), none, (.bin .lss (.t 47) (.t 53))⟩])
                    (.cnd (.t 54)
                      (.ops [⟨(some 55), none, (.mov (.t 10))⟩,
                        ⟨(some 56), none, (.bin .add (.t 55) (.k (.int .i64 1)))⟩,
                        ⟨(some 10), none, (.mov (.t 56))⟩])
                      .skip)))
                  (.ops [⟨(some 40), none, (.mov (.t 11))⟩,
                    ⟨(some 41), none, (.bin .add (.t 40) (.k (.int .i64 1)))⟩,
                    ⟨(some 11), none, (.mov (.t 41))⟩]))))))
              (.seq (.ops [⟨(some 57), none, (.mov (.t 10))⟩])
              (.blk 6 (.seq (.ops [⟨(some 62), none, (.mov (.t 5))⟩,
                  ⟨(some 63), none, (.len false (.t 62))⟩,
                  ⟨(some 64), none, (.bin .eql (.t 57) (.t 63))⟩,
                  ⟨(some 61), none, (.mov (.t 64))⟩])
                (.cnd (.t 61)
                  (.ops [⟨(some 65), none, (.mov (.t 8))⟩,
                    ⟨(some 66), none, (.bsl 1 [[(.int .i64 0)]] [(0, (.k (.int .i64 1)))])⟩,
                    ⟨(some 67), none, (.app 1 8 (.t 65) (.t 66) 8)⟩,
                    ⟨(some 8), none, (.mov (.t 67))⟩])
                  (.seq (.ops [⟨(some 69), none, (.bin .eql (.t 57) (.k (.int .i64 0)))⟩,
                    ⟨(some 68), none, (.mov (.t 69))⟩])
                  (.cnd (.t 68)
                    (.ops [⟨(some 70), none, (.mov (.t 8))⟩,
                      ⟨(some 71), none, (.bsl 1 [[(.int .i64 0)]] [(0, (.k (.int .i64 2)))])⟩,
                      ⟨(some 72), none, (.app 1 8 (.t 70) (.t 71) 8)⟩,
                      ⟨(some 8), none, (.mov (.t 72))⟩])
                    (.ops [⟨(some 58), none, (.mov (.t 8))⟩,
                      ⟨(some 59), none, (.bsl 1 [[(.int .i64 0)]] [(0, (.k (.int .i64 3)))])⟩,
                      ⟨(some 60), none, (.app 1 8 (.t 58) (.t 59) 8)⟩,
                      ⟨(some 8), none, (.mov (.t 60))⟩]))))))))))
            (.ops [⟨(some 34), none, (.mov (.t 9))⟩,
              ⟨(some 35), none, (.bin .add (.t 34) (.k (.int .i64 1)))⟩,
              ⟨(some 9), none, (.mov (.t 35))⟩]))))))
        (.ops [⟨(some 73), none, (.mov (.t 6))⟩,
          ⟨(some 74), none, (.mov (.t 8))⟩,
          ⟨(some 75), none, (.bsl 1 [[.nsl]] [(0, (.t 74))])⟩,
          ⟨(some 76), none, (.app 1 24 (.t 73) (.t 75) 6)⟩,
          ⟨(some 6), none, (.mov (.t 76))⟩]))))
      (.ops [⟨(some 27), none, (.mov (.t 7))⟩,
        ⟨(some 28), none, (.bin .add (.t 27) (.k (.int .i64 1)))⟩,
        ⟨(some 7), none, (.mov (.t 28))⟩]))))))
  (.seq (.ops [⟨(some 77), none, (.mov (.t 6))⟩,
    ⟨(some 2), none, (.mov (.t 77))⟩,
    ⟨(some 3), none, (.mov (.k (.int .i64 0)))⟩])
  .ret)))))))⟩
def hint46 (P : Program) : Hint := { site := [(60, 8), (67, 8), (72, 8), (76, 6)], nils := [(6, 1), (8, 1)], frz := [], wr := [] }

theorem bfS_snoc (l : List Int) : ∀ (ls : List (List Int)) (x y : Nat), bfS (ls ++ [l]) x y = bfS ls x y + bf l x y
  | [], x, y => by simp [bfS]
  | k :: ls, x, y => by rw [List.cons_append, bfS_cons, bfS_cons, bfS_snoc l ls]; omega
theorem rSure_c (gs : List Guest) (rs : List Rule) (hl0 : gs.length < 1000) (hr0 : rs.length < 1000) (hs : ∀ g ∈ gs, g.name.size ≤ 1000) :
    Fn0 Try.prog 46 [pA gs rs] (fun v => v = .tup [optLL (sureP gs rs).1, .int .i64 (sureP gs rs).2]) := by
  have hck := rCheck_c gs rs hl0 hr0 hs
  by_cases h0 : pErr gs rs = 0
  case neg =>
    rw [show sureP gs rs = (none, pErr gs rs) by rw [sureP, if_neg h0]]
    refine RawC.walk (H := hint46 Try.prog) ir46 Try.func46 rfl rfl rfl ?_
    unfold ir46
    repeat' (first
      | with_reducible (first | refine Rd.p ?_ | refine zE ?_ | refine zE0 ?_)
      | with_reducible (first | refine zI fun y hy => ?_ | refine zL ?_ | refine zS ?_ | refine zA fun _ => ?_ | refine zV ?_ | refine zC ?_ | refine zG ?_ | refine zU ?_ | refine zG0 ?_ | refine zU0 ?_ | refine zF ?_)
      | ((with_reducible refine acall_id ?_); refine ACall.val hck rfl rfl ?_)
      | with_reducible (first | refine zX ?_ | refine zD fun _ => ?_ | refine zD0 ?_ | refine zN ?_ | refine zF0 ?_ | refine zX0 ?_ | refine z1 ?_ | refine z2 ?_ | refine z3 ?_ | refine z4 ?_ | refine z5 ?_ | refine z6 ?_ | refine z7 ?_ | refine z8 ?_ | refine y1 ?_ | refine y2 ?_ | refine y3 ?_ | refine y4 ?_ | refine y5 ?_ | refine y6 ?_ | refine y7 ?_ | refine y8 ?_ | refine Rt.p (fun _ => ?_) fun _ => ?_)
      | ((with_reducible apply w_ixM); (focus exact rfl); (focus exact rfl); case' hk => intro y hy) | ((with_reducible (first | apply w_val | apply q_ends)); (focus exact rfl)))
    rfl
  have hp := pOK_of h0
  have hg := rgood_c gs rs hp
  have h7 := hp.g7
  have h1 := hp.g1
  have hol := okL_len gs rs hp.g7
  rw [h0] at hck
  have hsp : sureP gs rs = if okL gs rs = [] then (none, 12) else (some (sureR gs.length (okL gs rs)), 0) := by rw [sureP, if_pos h0]
  have hall : ∀ x ∈ okL gs rs, isPerm gs.length x := fun x hx => perm_of (List.mem_filter.1 hx).1
  rw [hsp]
  generalize okL gs rs = ls at *
  by_cases he : ls = []
  · subst he
    rw [if_pos rfl]
    have hz : ([] : List (List Int)).length = 0 := rfl
    refine RawC.walk (H := hint46 Try.prog) ir46 Try.func46 rfl rfl rfl ?_
    unfold ir46
    repeat' (first
      | with_reducible (first | refine Rd.p ?_ | refine zE ?_ | refine zE0 ?_)
      | with_reducible (first | refine zI fun y hy => ?_ | refine zL ?_ | refine zS ?_ | refine zA fun _ => ?_ | refine zV ?_ | refine zC ?_ | refine zG ?_ | refine zU ?_ | refine zG0 ?_ | refine zU0 ?_ | refine zF ?_)
      | ((with_reducible refine acall_id ?_); refine ACall.val hck rfl rfl ?_)
      | ((with_reducible refine acall_id ?_); refine ACall.val hg rfl rfl ?_)
      | with_reducible (first | refine zX ?_ | refine zD fun _ => ?_ | refine zD0 ?_ | refine zN ?_ | refine zF0 ?_ | refine zX0 ?_ | refine z1 ?_ | refine z2 ?_ | refine z3 ?_ | refine z4 ?_ | refine z5 ?_ | refine z6 ?_ | refine z7 ?_ | refine z8 ?_ | refine y1 ?_ | refine y2 ?_ | refine y3 ?_ | refine y4 ?_ | refine y5 ?_ | refine y6 ?_ | refine y7 ?_ | refine y8 ?_ | refine Rt.p (fun _ => ?_) fun _ => ?_)
      | ((with_reducible apply w_ixM); (focus exact rfl); (focus exact rfl); case' hk => intro y hy) | ((with_reducible (first | apply w_val | apply q_ends)); (focus exact rfl)))
    rfl
  have hpos : 0 < ls.length := List.length_pos_iff.2 he
  rw [if_neg he]
  refine RawC.walk (H := hint46 Try.prog) ir46 Try.func46 rfl rfl rfl ?_
  unfold ir46
  repeat' (first
    | with_reducible (first | refine Rd.p ?_ | refine zE ?_ | refine zE0 ?_)
    | with_reducible (first | refine zI fun y hy => ?_ | refine zL ?_ | refine zS ?_ | refine zA fun _ => ?_ | refine zV ?_ | refine zC ?_ | refine zG ?_ | refine zU ?_ | refine zG0 ?_ | refine zU0 ?_ | refine zF ?_)
    | ((with_reducible refine acall_id ?_); refine ACall.val hck rfl rfl ?_)
    | ((with_reducible refine acall_id ?_); refine ACall.val hg rfl rfl ?_)
    | with_reducible (first | refine zX ?_ | refine zD fun _ => ?_ | refine zD0 ?_ | refine zN ?_ | refine zF0 ?_ | refine zX0 ?_ | refine z1 ?_ | refine z2 ?_ | refine z3 ?_ | refine z4 ?_ | refine z5 ?_ | refine z6 ?_ | refine z7 ?_ | refine z8 ?_ | refine y1 ?_ | refine y2 ?_ | refine y3 ?_ | refine y4 ?_ | refine y5 ?_ | refine y6 ?_ | refine y7 ?_ | refine y8 ?_ | refine Rt.p (fun _ => ?_) fun _ => ?_)
    | ((with_reducible apply w_ixM); (focus exact rfl); (focus exact rfl); case' hk => intro y hy) | ((with_reducible (first | apply w_val | apply q_ends)); (focus exact rfl)))
  rename_i g60
  refine w_loopK [1, 5] [1] (fun x : List (List Int) × Nat => x.1.length ≤ gs.length ∧ x.1 = (List.range x.1.length).map fun a => (List.range gs.length).map fun b => vdI (bfS ls a b) ls.length) (fun x => gs.length - x.1.length) (fun x => [(7, .int .i64 x.1.length), (6, .slc 1 (llR x.1) (.own 6 x.2))])
    (fun x => [(6, (x.2, .row []))]) ([], g60) ⟨by simp, rfl⟩ ⟨rfl, rfl, trivial⟩ ⟨rfl, trivial⟩ ?_
  rintro ⟨done, g6⟩ ⟨hd1, hd2⟩ e1 σ1
  dsimp only at hd1 hd2 ⊢
  by_cases hlt : done.length < gs.length
  case neg =>
    repeat' (first
      | with_reducible (first | refine Rd.p ?_ | refine zE ?_ | refine zE0 ?_)
      | with_reducible (first | refine zI fun y hy => ?_ | refine zL ?_ | refine zS ?_ | refine zA fun _ => ?_ | refine zV ?_ | refine zC ?_ | refine zG ?_ | refine zU ?_ | refine zG0 ?_ | refine zU0 ?_ | refine zF ?_)
      | with_reducible (first | refine zX ?_ | refine zD fun _ => ?_ | refine zD0 ?_ | refine zN ?_ | refine zF0 ?_ | refine zX0 ?_ | refine z1 ?_ | refine z2 ?_ | refine z3 ?_ | refine z4 ?_ | refine z5 ?_ | refine z6 ?_ | refine z7 ?_ | refine z8 ?_ | refine y1 ?_ | refine y2 ?_ | refine y3 ?_ | refine y4 ?_ | refine y5 ?_ | refine y6 ?_ | refine y7 ?_ | refine y8 ?_ | refine Rt.p (fun _ => ?_) fun _ => ?_)
      | ((with_reducible apply w_ixM); (focus exact rfl); (focus exact rfl); case' hk => intro y hy) | ((with_reducible (first | apply w_val | apply q_ends)); (focus exact rfl)))
    rw [hd2, show done.length = gs.length by omega]; rfl
  repeat' (first
    | with_reducible (first | refine Rd.p ?_ | refine zE ?_ | refine zE0 ?_)
    | with_reducible (first | refine zI fun y hy => ?_ | refine zL ?_ | refine zS ?_ | refine zA fun _ => ?_ | refine zV ?_ | refine zC ?_ | refine zG ?_ | refine zU ?_ | refine zG0 ?_ | refine zU0 ?_ | refine zF ?_)
    | with_reducible (first | refine zX ?_ | refine zD fun _ => ?_ | refine zD0 ?_ | refine zN ?_ | refine zF0 ?_ | refine zX0 ?_ | refine z1 ?_ | refine z2 ?_ | refine z3 ?_ | refine z4 ?_ | refine z5 ?_ | refine z6 ?_ | refine z7 ?_ | refine z8 ?_ | refine y1 ?_ | refine y2 ?_ | refine y3 ?_ | refine y4 ?_ | refine y5 ?_ | refine y6 ?_ | refine y7 ?_ | refine y8 ?_ | refine Rt.p (fun _ => ?_) fun _ => ?_)
    | ((with_reducible apply w_ixM); (focus exact rfl); (focus exact rfl); case' hk => intro y hy) | ((with_reducible (first | apply w_val | apply q_ends)); (focus exact rfl)))
  rename_i g80
  refine w_loopK [1, 5, 6, 7] [1, 6] (fun x : List Int × Nat => x.1.length ≤ gs.length ∧ x.1 = (List.range x.1.length).map fun b => vdI (bfS ls done.length b) ls.length) (fun x => gs.length - x.1.length) (fun x => [(9, .int .i64 x.1.length), (8, .slc 1 (iR x.1) (.own 8 x.2))])
    (fun x => [(8, (x.2, .row []))]) ([], g80) ⟨by simp, rfl⟩ ⟨rfl, rfl, trivial⟩ ⟨rfl, trivial⟩ ?_
  rintro ⟨cur, g8⟩ ⟨hc1, hc2⟩ e2 σ2
  dsimp only at hc1 hc2 ⊢
  by_cases hlt2 : cur.length < gs.length
  case neg =>
    repeat' (first
      | with_reducible (first | refine Rd.p ?_ | refine zE ?_ | refine zE0 ?_)
      | with_reducible (first | refine zI fun y hy => ?_ | refine zL ?_ | refine zS ?_ | refine zA fun _ => ?_ | refine zV ?_ | refine zC ?_ | refine zG ?_ | refine zU ?_ | refine zG0 ?_ | refine zU0 ?_ | refine zF ?_)
      | with_reducible (first | refine zX ?_ | refine zD fun _ => ?_ | refine zD0 ?_ | refine zN ?_ | refine zF0 ?_ | refine zX0 ?_ | refine z1 ?_ | refine z2 ?_ | refine z3 ?_ | refine z4 ?_ | refine z5 ?_ | refine z6 ?_ | refine z7 ?_ | refine z8 ?_ | refine y1 ?_ | refine y2 ?_ | refine y3 ?_ | refine y4 ?_ | refine y5 ?_ | refine y6 ?_ | refine y7 ?_ | refine y8 ?_ | refine Rt.p (fun _ => ?_) fun _ => ?_)
      | ((with_reducible apply w_ixM); (focus exact rfl); (focus exact rfl); case' hk => intro y hy) | ((with_reducible (first | apply w_val | apply q_ends)); (focus exact rfl)))
    refine zQ (done ++ [cur], _) ?_ ?_
    · refine ⟨by simp; omega, ?_⟩
      dsimp only
      rw [List.length_append, List.length_singleton, List.range_succ, List.map_append, ← hd2]
      simp only [List.map_cons, List.map_nil]
      congr 2
      rw [hc2, show cur.length = gs.length by omega]
    · simp; omega
  repeat' (first
    | with_reducible (first | refine Rd.p ?_ | refine zE ?_ | refine zE0 ?_)
    | with_reducible (first | refine zI fun y hy => ?_ | refine zL ?_ | refine zS ?_ | refine zA fun _ => ?_ | refine zV ?_ | refine zC ?_ | refine zG ?_ | refine zU ?_ | refine zG0 ?_ | refine zU0 ?_ | refine zF ?_)
    | with_reducible (first | refine zX ?_ | refine zD fun _ => ?_ | refine zD0 ?_ | refine zN ?_ | refine zF0 ?_ | refine zX0 ?_ | refine z1 ?_ | refine z2 ?_ | refine z3 ?_ | refine z4 ?_ | refine z5 ?_ | refine z6 ?_ | refine z7 ?_ | refine z8 ?_ | refine y1 ?_ | refine y2 ?_ | refine y3 ?_ | refine y4 ?_ | refine y5 ?_ | refine y6 ?_ | refine y7 ?_ | refine y8 ?_ | refine Rt.p (fun _ => ?_) fun _ => ?_)
    | ((with_reducible apply w_ixM); (focus exact rfl); (focus exact rfl); case' hk => intro y hy) | ((with_reducible (first | apply w_val | apply q_ends)); (focus exact rfl)))
  refine w_loopK [1, 5, 6, 7, 8, 9] [1, 6, 8] (fun x : List (List Int) × List (List Int) => ls = x.1 ++ x.2) (fun x => x.2.length) (fun x => [(11, .int .i64 x.1.length), (10, .int .i64 (bfS x.1 done.length cur.length))])
    (fun _ => []) ([], ls) rfl ⟨rfl, rfl, trivial⟩ trivial ?_
  rintro ⟨pre, post⟩ hl e3 σ3
  dsimp only at hl ⊢
  have hlen := congrArg List.length hl
  have hbd : 0 ≤ bfS pre done.length cur.length ∧ bfS pre done.length cur.length ≤ 7 * pre.length := bfS_bd 7 _ _ pre fun l hl' => by
    have := (hall l (by rw [hl]; simp [hl'])).len; omega
  cases post with
  | nil =>
    simp only [List.append_nil, List.length_append, List.length_nil] at hlen hl
    subst hl
    have hcn : ∀ v : Int, v = vdI (bfS ls done.length cur.length) ls.length → cur ++ [v] = (List.range (cur.length + 1)).map fun b => vdI (bfS ls done.length b) ls.length := by
      intro v hv
      rw [List.range_succ, List.map_append, ← hc2, hv]; rfl
    repeat' (first
      | with_reducible (first | refine Rd.p ?_ | refine zE ?_ | refine zE0 ?_)
      | with_reducible (first | refine zI fun y hy => ?_ | refine zL ?_ | refine zS ?_ | refine zA fun _ => ?_ | refine zV ?_ | refine zC ?_ | refine zG ?_ | refine zU ?_ | refine zG0 ?_ | refine zU0 ?_ | refine zF ?_)
      | with_reducible (first | refine zX ?_ | refine zD fun _ => ?_ | refine zD0 ?_ | refine zN ?_ | refine zF0 ?_ | refine zX0 ?_ | refine z1 ?_ | refine z2 ?_ | refine z3 ?_ | refine z4 ?_ | refine z5 ?_ | refine z6 ?_ | refine z7 ?_ | refine z8 ?_ | refine y1 ?_ | refine y2 ?_ | refine y3 ?_ | refine y4 ?_ | refine y5 ?_ | refine y6 ?_ | refine y7 ?_ | refine y8 ?_ | refine Rt.p (fun _ => ?_) fun _ => ?_)
      | ((with_reducible apply w_ixM); (focus exact rfl); (focus exact rfl); case' hk => intro y hy) | ((with_reducible (first | apply w_val | apply q_ends)); (focus exact rfl)))
    all_goals
      refine q_loop (cur ++ [_], _) ?_ ?_ (by repeat' (first | exact slots_nil | apply slots_cons | rfl | (rw [map_snoc]; rfl) | (rw [len_snoc]; rfl) | (rw [hS]; rfl) | (rw [hS, map_snoc]; rfl) | (refine int_eq ?_; (try dsimp only); omega) | (refine congrArg AV.bool ?_; simp_all; done))) (by repeat' (first | exact slots_nil | apply slots_cons | rfl | (rw [map_snoc]; rfl) | (rw [len_snoc]; rfl) | (rw [hS]; rfl) | (rw [hS, map_snoc]; rfl) | (refine int_eq ?_; (try dsimp only); omega) | (refine congrArg AV.bool ?_; simp_all; done))) (by repeat' (first | exact kept_nil | apply kept_cons | rfl)) (by repeat' (first | exact kept_nil | apply kept_cons | rfl))
      · refine ⟨by simp; omega, ?_⟩
        dsimp only
        rw [List.length_append, List.length_singleton]
        exact hcn _ (by unfold vdI; first | rw [if_pos (by assumption)] | rw [if_neg (by assumption), if_pos (by assumption)] | rw [if_neg (by assumption), if_neg (by assumption)])
      · simp; omega
  | cons l post =>
    simp only [List.length_append, List.length_cons] at hlen
    have hpl := hall l (by rw [hl]; simp)
    have hll := hpl.len
    have hbi : bf l done.length cur.length = if idxI l done.length < idxI l cur.length then 1 else 0 := bf_idx l 0 hpl.nd (hpl.all (by omega)) (hpl.all (by omega))
    have hsn := bfS_snoc l pre done.length cur.length
    rw [hbi] at hsn
    repeat' (first
      | with_reducible (first | refine Rd.p ?_ | refine zE ?_ | refine zE0 ?_)
      | (refine w_ixP hl rfl rfl ?_)
      | with_reducible (first | refine zI fun y hy => ?_ | refine zL ?_ | refine zS ?_ | refine zA fun _ => ?_ | refine zV ?_ | refine zC ?_ | refine zG ?_ | refine zU ?_ | refine zG0 ?_ | refine zU0 ?_ | refine zF ?_)
      | ((with_reducible refine acall_id ?_); refine ACall.val (rseat_c _ _ (by omega)) rfl rfl ?_)
      | with_reducible (first | refine zX ?_ | refine zD fun _ => ?_ | refine zD0 ?_ | refine zN ?_ | refine zF0 ?_ | refine zX0 ?_ | refine z1 ?_ | refine z2 ?_ | refine z3 ?_ | refine z4 ?_ | refine z5 ?_ | refine z6 ?_ | refine z7 ?_ | refine z8 ?_ | refine y1 ?_ | refine y2 ?_ | refine y3 ?_ | refine y4 ?_ | refine y5 ?_ | refine y6 ?_ | refine y7 ?_ | refine y8 ?_ | refine Rt.p (fun _ => ?_) fun _ => ?_)
      | ((with_reducible apply w_ixM); (focus exact rfl); (focus exact rfl); case' hk => intro y hy) | ((with_reducible (first | apply w_val | apply q_ends)); (focus exact rfl)))
    · rename_i hlt3
      rw [if_pos hlt3] at hsn
      refine q_loop (pre ++ [l], post) ?_ ?_ (by exact ⟨by rw [len_snoc]; rfl, int_eq hsn.symm, trivial⟩) (by repeat' (first | exact slots_nil | apply slots_cons | rfl | (rw [map_snoc]; rfl) | (rw [len_snoc]; rfl) | (rw [hS]; rfl) | (rw [hS, map_snoc]; rfl) | (refine int_eq ?_; (try dsimp only); omega) | (refine congrArg AV.bool ?_; simp_all; done))) (by repeat' (first | exact kept_nil | apply kept_cons | rfl)) (by repeat' (first | exact kept_nil | apply kept_cons | rfl))
      · rw [hl]; simp
      · simp
    · rename_i hlt3
      rw [if_neg hlt3, Int.add_zero] at hsn
      refine q_loop (pre ++ [l], post) ?_ ?_ (by exact ⟨by rw [len_snoc]; rfl, int_eq hsn.symm, trivial⟩) (by repeat' (first | exact slots_nil | apply slots_cons | rfl | (rw [map_snoc]; rfl) | (rw [len_snoc]; rfl) | (rw [hS]; rfl) | (rw [hS, map_snoc]; rfl) | (refine int_eq ?_; (try dsimp only); omega) | (refine congrArg AV.bool ?_; simp_all; done))) (by repeat' (first | exact kept_nil | apply kept_cons | rfl)) (by repeat' (first | exact kept_nil | apply kept_cons | rfl))
      · rw [hl]; simp
      · simp
end Go.Abs
