/- A part of the proofs of the laws of this seat: contracts of the functions that they reach, each proved of the program's form in Lean. No condition beyond those that each contract names. -/
import Derived.Test.YtmekfgjlcaonjaaC1
import Derived.Test.YtmekfgjlcaonjaaB
set_option linter.unusedVariables false
set_option linter.unusedSimpArgs false
set_option maxRecDepth 20000
set_option maxHeartbeats 4000000
namespace Go.Abs
open Go.Proofs
structure Sea where
  ss : List Int
  gs : List (List Int)
  deriving DecidableEq
abbrev seC (s : Sea) : List AV := [.slc 1 (iR s.ss) .non, .slc 1 (llR s.gs) .non]
abbrev seA (s : Sea) : AV := .agg (seC s)
def gathE (pre : List Int) : List Int → Int
  | [] => 0
  | g :: r => if inB g 0 11 = true then (if 0 ≤ idxI pre g then 9 else gathE (pre ++ [g]) r) else 2
def gathsE : List (List Int) → Int
  | [] => 0
  | l :: r => if l = [] then 6 else if gathE [] l = 0 then gathsE r else gathE [] l
def sortsB (l : List Int) : Bool := l.all fun n => inB n 1 6
def seaE (s : Sea) : Int := if s.ss = [] then 6 else if 4 < s.ss.length then 8 else if sortsB s.ss = true then (if 9 < s.gs.length then 8 else gathsE s.gs) else 2
def combF (l : List Int) : Int := l.foldl (· * ·) 1
/-- aloeswood/store.CheckSeason -/
def ir62 : IFn :=
  ⟨63, [(2, none)], (.seq (.ops [⟨(some 1), none, (.box 2 (.t 0))⟩,
    ⟨(some 2), none, (.mov (.k (.int .i64 0)))⟩])
  (.seq (.blk 0 (.seq (.ops [⟨(some 10), none, (.flA 0 (.t 1))⟩,
      ⟨(some 11), none, (.ld 1 false (.t 10))⟩,
      ⟨(some 12), none, (.len false (.t 11))⟩,
      ⟨(some 13), none, (.bin .eql (.t 12) (.k (.int .i64 0)))⟩,
      ⟨(some 9), none, (.mov (.t 13))⟩])
    (.cnd (.t 9)
      (.seq (.ops [⟨(some 2), none, (.mov (.k (.int .i64 6)))⟩])
      .ret)
      (.seq (.ops [⟨(some 15), none, (.flA 0 (.t 1))⟩,
        ⟨(some 16), none, (.ld 1 false (.t 15))⟩,
        ⟨(some 17), none, (.len false (.t 16))⟩,
        ⟨(some 18), none, (.bin .gtr (.t 17) (.k (.int .i64 4)))⟩,
        ⟨(some 14), none, (.mov (.t 18))⟩])
      (.cnd (.t 14)
        (.seq (.ops [⟨(some 2), none, (.mov (.k (.int .i64 8)))⟩])
        .ret)
        .skip)))))
  (.seq (.seq (.ops [⟨(some 19), none, (.flA 0 (.t 1))⟩,
    ⟨(some 20), none, (.ld 1 false (.t 19))⟩,
    ⟨(some 21), none, (.len false (.t 20))⟩,
    ⟨(some 22), none, (.mov (.k (.int .i64 0)))⟩])
  (.blk 1 (.loop (.seq (.ops [⟨(some 23), none, (.bin .lss (.t 22) (.t 21))⟩])
      (.seq (.cnd (.t 23)
        .skip
        (.exit 1))
      (.seq (.blk 2 (.seq (.ops [⟨(some 24), none, (.ixA 1 (.t 20) (.t 22))⟩,
          ⟨(some 25), none, (.ld 1 false (.t 24))⟩,
          ⟨(some 4), none, (.mov (.t 25))⟩])
        (.seq (.ops [⟨(some 26), none, (.mov (.t 4))⟩,
          ⟨(some 27), none, (.callF 97 [(.t 26), (.k (.int .i64 1)), (.k (.int .i64 6))])⟩,
          ⟨(some 28), none, (.not (.t 27))⟩])
        (.cnd (.t 28)
          (.seq (.ops [⟨(some 2), none, (.mov (.k (.int .i64 2)))⟩])
          .ret)
          .skip))))
      (.ops [⟨(some 29), none, (.bin .add (.t 22) (.k (.int .i64 1)))⟩,
        ⟨(some 22), none, (.mov (.t 29))⟩])))))))
  (.seq (.seq (.ops [⟨(some 30), none, (.flA 1 (.t 1))⟩,
    ⟨(some 31), none, (.ld 1 false (.t 30))⟩,
    ⟨(some 32), none, (.len false (.t 31))⟩,
    ⟨(some 33), none, (.bin .gtr (.t 32) (.k (.int .i64 9)))⟩])
  (.cnd (.t 33)
    (.seq (.ops [⟨(some 2), none, (.mov (.k (.int .i64 8)))⟩])
    .ret)
    .skip))
  (.seq (.seq (.ops [⟨(some 34), none, (.flA 1 (.t 1))⟩,
    ⟨(some 35), none, (.ld 1 false (.t 34))⟩,
    ⟨(some 36), none, (.len false (.t 35))⟩,
    ⟨(some 37), none, (.mov (.k (.int .i64 0)))⟩])
  (.blk 3 (.loop (.seq (.ops [⟨(some 38), none, (.bin .lss (.t 37) (.t 36))⟩])
      (.seq (.cnd (.t 38)
        .skip
        (.exit 3))
      (.seq (.blk 4 (.seq (.ops [⟨(some 39), none, (.ixA 1 (.t 35) (.t 37))⟩,
          ⟨(some 40), none, (.ld 1 false (.t 39))⟩,
          ⟨(some 6), none, (.mov (.t 40))⟩])
        (.seq (.seq (.ops [⟨(some 41), none, (.mov (.t 6))⟩,
          ⟨(some 42), none, (.len false (.t 41))⟩,
          ⟨(some 43), none, (.bin .eql (.t 42) (.k (.int .i64 0)))⟩])
        (.cnd (.t 43)
          (.seq (.ops [⟨(some 2), none, (.mov (.k (.int .i64 6)))⟩])
          .ret)
          .skip))
        (.seq (.ops [⟨(some 44), none, (.mov (.t 6))⟩,
          ⟨(some 45), none, (.len false (.t 44))⟩,
          ⟨(some 46), none, (.mov (.k (.int .i64 0)))⟩])
        (.blk 5 (.loop (.seq (.ops [⟨(some 47), none, (.bin .lss (.t 46) (.t 45))⟩])
            (.seq (.cnd (.t 47)
              .skip
              (.exit 5))
            (.seq (.blk 6 (.seq (.ops [⟨(some 48), none, (.mov (.t 46))⟩,
                ⟨(some 49), none, (.ixA 1 (.t 44) (.t 46))⟩,
                ⟨(some 50), none, (.ld 1 false (.t 49))⟩,
                ⟨(some 7), none, (.mov (.t 48))⟩,
                ⟨(some 8), none, (.mov (.t 50))⟩])
              (.blk 7 (.seq (.ops [⟨(some 52), none, (.mov (.t 8))⟩,
                  ⟨(some 53), none, (.callF 97 [(.t 52), (.k (.int .i64 0)), (.k (.int .i64 11))])⟩,
                  ⟨(some 54), none, (.not (.t 53))⟩,
                  ⟨(some 51), none, (.mov (.t 54))⟩])
                (.cnd (.t 51)
                  (.seq (.ops [⟨(some 2), none, (.mov (.k (.int .i64 2)))⟩])
                  .ret)
                  (.seq (.ops [⟨(some 56), none, (.mov (.t 6))⟩,
                    ⟨(some 57), none, (.mov (.t 7))⟩,
                    ⟨(some 58), none, (.slS 1 (.t 56) none (some (.t 57)) none)⟩,
                    ⟨(some 59), none, (.mov (.t 8))⟩,
                    ⟨(some 60), none, (.callF 107 [(.t 58), (.t 59)])⟩,
                    ⟨(some 55), none, (.mov (.t 60))⟩])
                  (.cnd (.t 55)
                    (.seq (.ops [⟨(some 2), none, (.mov (.k (.int .i64 9)))⟩])
                    .ret)
                    .skip)))))))
            (.ops [⟨(some 61), none, (.bin .add (.t 46) (.k (.int .i64 1)))⟩,
              ⟨(some 46), none, (.mov (.t 61))⟩]))))))))))
      (.ops [⟨(some 62), none, (.bin .add (.t 37) (.k (.int .i64 1)))⟩,
        ⟨(some 37), none, (.mov (.t 62))⟩])))))))
  (.seq (.ops [⟨(some 2), none, (.mov (.k (.int .i64 0)))⟩])
  .ret))))))⟩
def hint62 (P : Program) : Hint := {}
/-- aloeswood/store.combinations -/
def ir98 : IFn :=
  ⟨18, [(2, none)], (.seq (.ops [⟨(some 1), none, (.box 2 (.t 0))⟩,
    ⟨(some 2), none, (.mov (.k (.int .i64 0)))⟩])
  (.seq (.ops [⟨(some 3), none, (.mov (.k (.int .i64 1)))⟩])
  (.seq (.seq (.ops [⟨(some 6), none, (.flA 0 (.t 1))⟩,
    ⟨(some 7), none, (.ld 1 false (.t 6))⟩,
    ⟨(some 8), none, (.len false (.t 7))⟩,
    ⟨(some 9), none, (.mov (.k (.int .i64 0)))⟩])
  (.blk 0 (.loop (.seq (.ops [⟨(some 10), none, (.bin .lss (.t 9) (.t 8))⟩])
      (.seq (.cnd (.t 10)
        .skip
        (.exit 0))
      (.seq (.blk 1 (.seq (.ops [⟨(some 11), none, (.ixA 1 (.t 7) (.t 9))⟩,
          ⟨(some 12), none, (.ld 1 false (.t 11))⟩,
          ⟨(some 5), none, (.mov (.t 12))⟩])
        (.ops [⟨(some 13), none, (.mov (.t 3))⟩,
          ⟨(some 14), none, (.mov (.t 5))⟩,
          ⟨(some 15), none, (.bin .mul (.t 13) (.t 14))⟩,
          ⟨(some 3), none, (.mov (.t 15))⟩])))
      (.ops [⟨(some 16), none, (.bin .add (.t 9) (.k (.int .i64 1)))⟩,
        ⟨(some 9), none, (.mov (.t 16))⟩])))))))
  (.seq (.ops [⟨(some 17), none, (.mov (.t 3))⟩,
    ⟨(some 2), none, (.mov (.t 17))⟩])
  .ret))))⟩
def hint98 (P : Program) : Hint := {}
theorem checkS_s (s : Sea) (h1 : s.ss.length < 1000) (h2 : s.gs.length < 1000) (h3 : ∀ l ∈ s.gs, l.length < 1000) : Fn0 Try.prog 62 [seA s] (fun v => v = .int .i64 (seaE s)) := by
  refine RawC.walk (H := hint62 Try.prog) ir62 Try.func62 rfl rfl rfl ?_
  unfold ir62
  repeat' (first
    | with_reducible (first | refine Rd.p ?_ | refine w_alt ?_ ?_ | refine zE ?_ | refine zE0 ?_)
    | with_reducible (first | refine zI fun y hy => ?_ | refine zL ?_ | refine zS ?_ | refine zA fun _ => ?_ | refine zV ?_ | refine zC ?_ | refine zG ?_ | refine zU ?_ | refine zG0 ?_ | refine zU0 ?_ | refine zF ?_)
    | with_reducible (first | refine zX ?_ | refine zD fun _ => ?_ | refine zD0 ?_ | refine zN ?_ | refine zF0 ?_ | refine zX0 ?_ | refine z1 ?_ | refine z2 ?_ | refine z3 ?_ | refine z4 ?_ | refine z5 ?_ | refine z6 ?_ | refine z7 ?_ | refine z8 ?_ | refine y1 ?_ | refine y2 ?_ | refine y3 ?_ | refine y4 ?_ | refine y5 ?_ | refine y6 ?_ | refine y7 ?_ | refine y8 ?_ | refine Rt.p (fun _ => ?_) fun _ => ?_)
    | ((with_reducible apply w_ixM); (focus exact rfl); (focus exact rfl); case' hk => intro y hy) | ((with_reducible (first | apply w_val | apply q_ends)); (focus exact rfl)))
  · rename_i h; refine congrArg (AV.int .i64) ?_; rw [seaE, if_pos (List.length_eq_zero_iff.1 (by omega))]
  · rename_i h0 h; refine congrArg (AV.int .i64) ?_; rw [seaE, if_neg (fun e => h0 (by rw [e]; rfl)), if_pos (by omega)]
  rename_i g1 h0 h4
  have hne : s.ss ≠ [] := fun e => h0 (by rw [e]; rfl)
  refine w_loopK [1, 20, 21] [1] (fun x : List Int × List Int => s.ss = x.1 ++ x.2 ∧ sortsB x.1 = true) (fun x => x.2.length) (fun x => [(22, .int .i64 x.1.length)]) (fun _ => []) ([], s.ss) ⟨rfl, rfl⟩ ⟨rfl, trivial⟩ trivial ?_
  rintro ⟨pre, post⟩ ⟨hp, hb⟩ e σ
  dsimp only at hp hb ⊢
  have hlen := congrArg List.length hp
  rw [List.length_append] at hlen
  cases post with
  | cons d post =>
    simp only [List.length_cons] at hlen
    repeat' (first
      | with_reducible (first | refine Rd.p ?_ | refine w_alt ?_ ?_ | refine zE ?_ | refine zE0 ?_)
      | (refine w_ixP hp rfl rfl ?_)
      | with_reducible (first | refine zI fun y hy => ?_ | refine zL ?_ | refine zS ?_ | refine zA fun _ => ?_ | refine zV ?_ | refine zC ?_ | refine zG ?_ | refine zU ?_ | refine zG0 ?_ | refine zU0 ?_ | refine zF ?_)
      | ((with_reducible refine acall_id ?_); refine ACall.val (within_s _ _ _) rfl rfl ?_)
      | with_reducible (first | refine zX ?_ | refine zD fun _ => ?_ | refine zD0 ?_ | refine zN ?_ | refine zF0 ?_ | refine zX0 ?_ | refine z1 ?_ | refine z2 ?_ | refine z3 ?_ | refine z4 ?_ | refine z5 ?_ | refine z6 ?_ | refine z7 ?_ | refine z8 ?_ | refine y1 ?_ | refine y2 ?_ | refine y3 ?_ | refine y4 ?_ | refine y5 ?_ | refine y6 ?_ | refine y7 ?_ | refine y8 ?_ | refine Rt.p (fun _ => ?_) fun _ => ?_)
      | ((with_reducible apply w_ixM); (focus exact rfl); (focus exact rfl); case' hk => intro y hy) | ((with_reducible (first | apply w_val | apply q_ends)); (focus exact rfl)))
    · rename_i h
      refine congrArg (AV.int .i64) ?_
      have : sortsB s.ss = false := by rw [hp]; simp [sortsB, h]
      rw [seaE, if_neg hne, if_neg (by omega), if_neg (by simp [this])]
    · rename_i h
      refine zQ (pre ++ [d], post) ?_ ?_
      · exact ⟨by rw [hp]; simp, by simp only [sortsB, List.all_append, Bool.and_eq_true] at hb ⊢; exact ⟨hb, by simp [h]⟩⟩
      · simp
  | nil =>
    rw [List.append_nil] at hp
    subst hp
    simp only [List.length_nil] at hlen
    have hs0 : seaE s = if 9 < s.gs.length then 8 else gathsE s.gs := by rw [seaE, if_neg hne, if_neg (by omega), if_pos hb]
    repeat' (first
      | with_reducible (first | refine Rd.p ?_ | refine w_alt ?_ ?_ | refine zE ?_ | refine zE0 ?_)
      | with_reducible (first | refine zI fun y hy => ?_ | refine zL ?_ | refine zS ?_ | refine zA fun _ => ?_ | refine zV ?_ | refine zC ?_ | refine zG ?_ | refine zU ?_ | refine zG0 ?_ | refine zU0 ?_ | refine zF ?_)
      | with_reducible (first | refine zX ?_ | refine zD fun _ => ?_ | refine zD0 ?_ | refine zN ?_ | refine zF0 ?_ | refine zX0 ?_ | refine z1 ?_ | refine z2 ?_ | refine z3 ?_ | refine z4 ?_ | refine z5 ?_ | refine z6 ?_ | refine z7 ?_ | refine z8 ?_ | refine y1 ?_ | refine y2 ?_ | refine y3 ?_ | refine y4 ?_ | refine y5 ?_ | refine y6 ?_ | refine y7 ?_ | refine y8 ?_ | refine Rt.p (fun _ => ?_) fun _ => ?_)
      | ((with_reducible apply w_ixM); (focus exact rfl); (focus exact rfl); case' hk => intro y hy) | ((with_reducible (first | apply w_val | apply q_ends)); (focus exact rfl)))
    · rename_i h; refine congrArg (AV.int .i64) ?_; rw [hs0, if_pos (by omega)]
    rename_i h9
    rw [if_neg (by omega)] at hs0
    rw [hs0]
    refine w_loopK [35, 36] [] (fun x : List (List Int) × List (List Int) => s.gs = x.1 ++ x.2 ∧ gathsE s.gs = gathsE x.2) (fun x => x.2.length) (fun x => [(37, .int .i64 x.1.length)]) (fun _ => []) ([], s.gs) ⟨rfl, rfl⟩ ⟨rfl, trivial⟩ trivial ?_
    rintro ⟨pre, post⟩ ⟨hp, hg⟩ e σ
    dsimp only at hp hg ⊢
    have hlen := congrArg List.length hp
    rw [List.length_append] at hlen
    cases post with
    | nil =>
      simp only [List.length_nil] at hlen
      repeat' (first
        | with_reducible (first | refine Rd.p ?_ | refine w_alt ?_ ?_ | refine zE ?_ | refine zE0 ?_)
        | with_reducible (first | refine zI fun y hy => ?_ | refine zL ?_ | refine zS ?_ | refine zA fun _ => ?_ | refine zV ?_ | refine zC ?_ | refine zG ?_ | refine zU ?_ | refine zG0 ?_ | refine zU0 ?_ | refine zF ?_)
        | with_reducible (first | refine zX ?_ | refine zD fun _ => ?_ | refine zD0 ?_ | refine zN ?_ | refine zF0 ?_ | refine zX0 ?_ | refine z1 ?_ | refine z2 ?_ | refine z3 ?_ | refine z4 ?_ | refine z5 ?_ | refine z6 ?_ | refine z7 ?_ | refine z8 ?_ | refine y1 ?_ | refine y2 ?_ | refine y3 ?_ | refine y4 ?_ | refine y5 ?_ | refine y6 ?_ | refine y7 ?_ | refine y8 ?_ | refine Rt.p (fun _ => ?_) fun _ => ?_)
        | ((with_reducible apply w_ixM); (focus exact rfl); (focus exact rfl); case' hk => intro y hy) | ((with_reducible (first | apply w_val | apply q_ends)); (focus exact rfl)))
      rw [hg]; rfl
    | cons l post =>
      simp only [List.length_cons] at hlen
      have hl := h3 l (by rw [hp]; simp)
      simp only [gathsE] at hg
      repeat' (first
        | with_reducible (first | refine Rd.p ?_ | refine w_alt ?_ ?_ | refine zE ?_ | refine zE0 ?_)
        | (refine w_ixP hp rfl rfl ?_)
        | with_reducible (first | refine zI fun y hy => ?_ | refine zL ?_ | refine zS ?_ | refine zA fun _ => ?_ | refine zV ?_ | refine zC ?_ | refine zG ?_ | refine zU ?_ | refine zG0 ?_ | refine zU0 ?_ | refine zF ?_)
        | with_reducible (first | refine zX ?_ | refine zD fun _ => ?_ | refine zD0 ?_ | refine zN ?_ | refine zF0 ?_ | refine zX0 ?_ | refine z1 ?_ | refine z2 ?_ | refine z3 ?_ | refine z4 ?_ | refine z5 ?_ | refine z6 ?_ | refine z7 ?_ | refine z8 ?_ | refine y1 ?_ | refine y2 ?_ | refine y3 ?_ | refine y4 ?_ | refine y5 ?_ | refine y6 ?_ | refine y7 ?_ | refine y8 ?_ | refine Rt.p (fun _ => ?_) fun _ => ?_)
        | ((with_reducible apply w_ixM); (focus exact rfl); (focus exact rfl); case' hk => intro y hy) | ((with_reducible (first | apply w_val | apply q_ends)); (focus exact rfl)))
      · rename_i h; refine congrArg (AV.int .i64) ?_; rw [hg, if_pos (List.length_eq_zero_iff.1 (by omega))]
      rename_i h
      have hl0 : l ≠ [] := fun e => h (by rw [e]; rfl)
      rw [if_neg hl0] at hg
      refine w_loopK [6, 35, 36, 37, 44, 45] [] (fun x : List Int × List Int => l = x.1 ++ x.2 ∧ gathE [] l = gathE x.1 x.2) (fun x => x.2.length) (fun x => [(46, .int .i64 x.1.length)]) (fun _ => []) ([], l) ⟨rfl, rfl⟩ ⟨rfl, trivial⟩ trivial ?_
      rintro ⟨pr, po⟩ ⟨hq, hr⟩ e σ
      dsimp only at hq hr ⊢
      have hlen2 := congrArg List.length hq
      rw [List.length_append] at hlen2
      cases po with
      | nil =>
        simp only [List.length_nil] at hlen2
        simp only [gathE] at hr
        rw [if_pos hr] at hg
        repeat' (first
          | with_reducible (first | refine Rd.p ?_ | refine w_alt ?_ ?_ | refine zE ?_ | refine zE0 ?_)
          | with_reducible (first | refine zI fun y hy => ?_ | refine zL ?_ | refine zS ?_ | refine zA fun _ => ?_ | refine zV ?_ | refine zC ?_ | refine zG ?_ | refine zU ?_ | refine zG0 ?_ | refine zU0 ?_ | refine zF ?_)
          | with_reducible (first | refine zX ?_ | refine zD fun _ => ?_ | refine zD0 ?_ | refine zN ?_ | refine zF0 ?_ | refine zX0 ?_ | refine z1 ?_ | refine z2 ?_ | refine z3 ?_ | refine z4 ?_ | refine z5 ?_ | refine z6 ?_ | refine z7 ?_ | refine z8 ?_ | refine y1 ?_ | refine y2 ?_ | refine y3 ?_ | refine y4 ?_ | refine y5 ?_ | refine y6 ?_ | refine y7 ?_ | refine y8 ?_ | refine Rt.p (fun _ => ?_) fun _ => ?_)
          | ((with_reducible apply w_ixM); (focus exact rfl); (focus exact rfl); case' hk => intro y hy) | ((with_reducible (first | apply w_val | apply q_ends)); (focus exact rfl)))
        refine zQ (pre ++ [l], post) ?_ ?_
        · exact ⟨by rw [hp]; simp, hg⟩
        · simp
      | cons a po =>
        simp only [List.length_cons] at hlen2
        have ht : (l.drop (0 : Int).toNat).take ((pr.length : Int) - 0).toNat = pr := by rw [hq]; simp
        simp only [gathE] at hr
        have hcn := contains_c pr a (by omega)
        repeat' (first
          | with_reducible (first | refine Rd.p ?_ | refine w_alt ?_ ?_ | refine zE ?_ | refine zE0 ?_)
          | (first | refine w_ixP (pre := pr) (y := a) (post := po) hq rfl rfl ?_)
          | with_reducible (first | refine zI fun y hy => ?_ | refine zL ?_ | refine zS ?_ | refine zA fun _ => ?_ | refine zV ?_ | refine zC ?_ | refine zG ?_ | refine zU ?_ | refine zG0 ?_ | refine zU0 ?_ | refine zF ?_)
          | ((with_reducible refine acall_id ?_); refine ACall.val (within_s _ _ _) rfl rfl ?_)
          | (rw [ht])
          | ((with_reducible refine acall_id ?_); refine ACall.val hcn rfl rfl ?_)
          | with_reducible (first | refine zX ?_ | refine zD fun _ => ?_ | refine zD0 ?_ | refine zN ?_ | refine zF0 ?_ | refine zX0 ?_ | refine z1 ?_ | refine z2 ?_ | refine z3 ?_ | refine z4 ?_ | refine z5 ?_ | refine z6 ?_ | refine z7 ?_ | refine z8 ?_ | refine y1 ?_ | refine y2 ?_ | refine y3 ?_ | refine y4 ?_ | refine y5 ?_ | refine y6 ?_ | refine y7 ?_ | refine y8 ?_ | refine Rt.p (fun _ => ?_) fun _ => ?_)
          | ((with_reducible apply w_ixM); (focus exact rfl); (focus exact rfl); case' hk => intro y hy) | ((with_reducible (first | apply w_val | apply q_ends)); (focus exact rfl)))
        · rename_i h6
          rw [if_neg (by simp [h6])] at hr
          rw [hr, if_neg (by decide)] at hg
          rw [hg]; rfl
        · rename_i h6 h7
          rw [if_pos h6, if_pos h7] at hr
          rw [hr, if_neg (by decide)] at hg
          rw [hg]; rfl
        · rename_i h6 h7
          rw [if_pos h6, if_neg h7] at hr
          refine zQ (pr ++ [a], po) ?_ ?_
          · exact ⟨by rw [hq]; simp, hr⟩
          · simp
theorem combF_snoc (l : List Int) (x : Int) : combF (l ++ [x]) = combF l * x := by simp [combF]
theorem combF_bd : ∀ (n : Nat) (l : List Int), l.length = n → (∀ x ∈ l, 1 ≤ x ∧ x ≤ 6) → 1 ≤ combF l ∧ combF l ≤ 6 ^ n
  | 0, l, h, _ => by
    have : l = [] := List.length_eq_zero_iff.1 h
    subst this; exact ⟨by decide, by decide⟩
  | n + 1, l, h, hx => by
    rcases List.eq_nil_or_concat l with rfl | ⟨l', x, rfl⟩
    · simp at h
    · rw [List.concat_eq_append] at *
      have h1 := combF_bd n l' (by simpa using h) fun y hy => hx y (by simp [hy])
      have h2 := hx x (by simp)
      rw [combF_snoc, Int.pow_succ]
      constructor
      · have := Int.mul_le_mul h1.1 h2.1 (by omega) (by omega); omega
      · exact Int.mul_le_mul h1.2 h2.2 (by omega) (by omega)
theorem comb_s (s : Sea) (h1 : s.ss.length ≤ 4) (h2 : ∀ x ∈ s.ss, 1 ≤ x ∧ x ≤ 6) : Fn0 Try.prog 98 [seA s] (fun v => v = .int .i64 (combF s.ss)) := by
  refine RawC.walk (H := hint98 Try.prog) ir98 Try.func98 rfl rfl rfl ?_
  unfold ir98
  repeat' (first
    | with_reducible (first | refine Rd.p ?_ | refine w_alt ?_ ?_ | refine zE ?_ | refine zE0 ?_)
    | with_reducible (first | refine zI fun y hy => ?_ | refine zL ?_ | refine zS ?_ | refine zA fun _ => ?_ | refine zV ?_ | refine zC ?_ | refine zG ?_ | refine zU ?_ | refine zG0 ?_ | refine zU0 ?_ | refine zF ?_)
    | with_reducible (first | refine zX ?_ | refine zD fun _ => ?_ | refine zD0 ?_ | refine zN ?_ | refine zF0 ?_ | refine zX0 ?_ | refine z1 ?_ | refine z2 ?_ | refine z3 ?_ | refine z4 ?_ | refine z5 ?_ | refine z6 ?_ | refine z7 ?_ | refine z8 ?_ | refine y1 ?_ | refine y2 ?_ | refine y3 ?_ | refine y4 ?_ | refine y5 ?_ | refine y6 ?_ | refine y7 ?_ | refine y8 ?_ | refine Rt.p (fun _ => ?_) fun _ => ?_)
    | ((with_reducible apply w_ixM); (focus exact rfl); (focus exact rfl); case' hk => intro y hy) | ((with_reducible (first | apply w_val | apply q_ends)); (focus exact rfl)))
  refine w_loopK [7, 8] [] (fun x : List Int × List Int => s.ss = x.1 ++ x.2) (fun x => x.2.length) (fun x => [(9, .int .i64 x.1.length), (3, .int .i64 (combF x.1))]) (fun _ => []) ([], s.ss) rfl ⟨rfl, rfl, trivial⟩ trivial ?_
  rintro ⟨pre, post⟩ hp e σ
  dsimp only at hp ⊢
  have hlen := congrArg List.length hp
  rw [List.length_append] at hlen
  cases post with
  | nil =>
    rw [List.append_nil] at hp
    simp only [List.length_nil] at hlen
    repeat' (first
      | with_reducible (first | refine Rd.p ?_ | refine w_alt ?_ ?_ | refine zE ?_ | refine zE0 ?_)
      | with_reducible (first | refine zI fun y hy => ?_ | refine zL ?_ | refine zS ?_ | refine zA fun _ => ?_ | refine zV ?_ | refine zC ?_ | refine zG ?_ | refine zU ?_ | refine zG0 ?_ | refine zU0 ?_ | refine zF ?_)
      | with_reducible (first | refine zX ?_ | refine zD fun _ => ?_ | refine zD0 ?_ | refine zN ?_ | refine zF0 ?_ | refine zX0 ?_ | refine z1 ?_ | refine z2 ?_ | refine z3 ?_ | refine z4 ?_ | refine z5 ?_ | refine z6 ?_ | refine z7 ?_ | refine z8 ?_ | refine y1 ?_ | refine y2 ?_ | refine y3 ?_ | refine y4 ?_ | refine y5 ?_ | refine y6 ?_ | refine y7 ?_ | refine y8 ?_ | refine Rt.p (fun _ => ?_) fun _ => ?_)
      | ((with_reducible apply w_ixM); (focus exact rfl); (focus exact rfl); case' hk => intro y hy) | ((with_reducible (first | apply w_val | apply q_ends)); (focus exact rfl)))
    rw [hp]; rfl
  | cons a post =>
    simp only [List.length_cons] at hlen
    have hb := combF_bd (pre ++ [a]).length (pre ++ [a]) rfl fun x hx => h2 x (by rw [hp]; simp at hx ⊢; rcases hx with h | h <;> simp [h])
    rw [combF_snoc] at hb
    have h6 : (6 : Int) ^ (pre ++ [a]).length ≤ 1296 := by
      have h7 : (pre ++ [a]).length ≤ 4 := by simp; omega
      rcases (by omega : (pre ++ [a]).length = 0 ∨ (pre ++ [a]).length = 1 ∨ (pre ++ [a]).length = 2 ∨ (pre ++ [a]).length = 3 ∨ (pre ++ [a]).length = 4) with h | h | h | h | h
      all_goals (rw [h]; decide)
    repeat' (first
      | with_reducible (first | refine Rd.p ?_ | refine w_alt ?_ ?_ | refine zE ?_ | refine zE0 ?_)
      | (refine w_ixP (pre := pre) (y := a) (post := post) hp rfl rfl ?_)
      | with_reducible (first | refine zI fun y hy => ?_ | refine zL ?_ | refine zS ?_ | refine zA fun _ => ?_ | refine zV ?_ | refine zC ?_ | refine zG ?_ | refine zU ?_ | refine zG0 ?_ | refine zU0 ?_ | refine zF ?_)
      | with_reducible (first | refine zX ?_ | refine zD fun _ => ?_ | refine zD0 ?_ | refine zN ?_ | refine zF0 ?_ | refine zX0 ?_ | refine z1 ?_ | refine z2 ?_ | refine z3 ?_ | refine z4 ?_ | refine z5 ?_ | refine z6 ?_ | refine z7 ?_ | refine z8 ?_ | refine y1 ?_ | refine y2 ?_ | refine y3 ?_ | refine y4 ?_ | refine y5 ?_ | refine y6 ?_ | refine y7 ?_ | refine y8 ?_ | refine Rt.p (fun _ => ?_) fun _ => ?_)
      | ((with_reducible apply w_ixM); (focus exact rfl); (focus exact rfl); case' hk => intro y hy) | ((with_reducible (first | apply w_val | apply q_ends)); (focus exact rfl)))
    refine q_loop (pre ++ [a], post) ?_ ?_ (slots_cons (by show AV.int .i64 _ = AV.int .i64 _; refine int_eq ?_; simp) (slots_cons (by show AV.int .i64 _ = AV.int .i64 _; rw [combF_snoc]) slots_nil)) trivial (by repeat' (first | exact kept_nil | apply kept_cons | rfl)) trivial
    · dsimp only; rw [hp]; simp
    · simp
end Go.Abs
