/- A part of the proofs of the laws of this seat: contracts of the functions that they reach, each proved of the program's form in Lean. No condition beyond those that each contract names. -/
import Derived.Test.YtcgcciegekaliaaB0
import Derived.Test.YtcgcciegekaliaaB8
import Derived.Test.YtcgcciegekaliaaB15a
import Derived.Test.YtcgcciegekaliaaB4
import Derived.Test.YtcgcciegekaliaaB2
set_option linter.unusedVariables false
set_option linter.unusedSimpArgs false
set_option maxRecDepth 20000
set_option maxHeartbeats 4000000
/-! ### Comparisons; what the laws look at -/
namespace Go.Abs
open Go.Proofs
/-- aloeswood/aloeswoodkit.EqParties -/
def ir41 : IFn :=
  ⟨39, [(4, none)], (.seq (.ops [⟨(some 2), none, (.box 2 (.t 0))⟩,
    ⟨(some 3), none, (.box 2 (.t 1))⟩,
    ⟨(some 4), none, (.mov (.k (.bool false)))⟩])
  (.seq (.seq (.ops [⟨(some 6), none, (.flA 0 (.t 2))⟩,
    ⟨(some 7), none, (.ld 1 false (.t 6))⟩,
    ⟨(some 8), none, (.flA 0 (.t 3))⟩,
    ⟨(some 9), none, (.ld 1 false (.t 8))⟩,
    ⟨(some 10), none, (.callF 25 [(.t 7), (.t 9)])⟩,
    ⟨(some 11), none, (.not (.t 10))⟩,
    ⟨(some 12), none, (.mov (.t 11))⟩,
    ⟨(some 13), (some (12, false)), (.flA 1 (.t 2))⟩,
    ⟨(some 14), (some (12, false)), (.ld 1 false (.t 13))⟩,
    ⟨(some 15), (some (12, false)), (.len false (.t 14))⟩,
    ⟨(some 16), (some (12, false)), (.flA 1 (.t 3))⟩,
    ⟨(some 17), (some (12, false)), (.ld 1 false (.t 16))⟩,
    ⟨(some 18), (some (12, false)), (.len false (.t 17))⟩,
    ⟨(some 19), (some (12, false)), (.bin .neq (.t 15) (.t 18))⟩,
    ⟨(some 20), none, (.pick (.t 12) (.k (.bool true)) (.t 19))⟩])
  (.cnd (.t 20)
    (.seq (.ops [⟨(some 4), none, (.mov (.k (.bool false)))⟩])
    .ret)
    .skip))
  (.seq (.seq (.ops [⟨(some 5), none, (.mov (.k (.int .i64 0)))⟩])
  (.blk 0 (.loop (.seq (.seq (.ops [⟨(some 21), none, (.mov (.t 5))⟩,
        ⟨(some 22), none, (.flA 1 (.t 2))⟩,
        ⟨(some 23), none, (.ld 1 false (.t 22))⟩,
        ⟨(some 24), none, (.len false (.t 23))⟩,
        ⟨(some 25), none, (.bin .lss (.t 21) (.t 24))⟩])
      (.cnd (.t 25)
        .skip
        (.exit 0)))
      (.seq (.blk 1 (.seq (.ops [⟨(some 28), none, (.flA 1 (.t 2))⟩,
          ⟨(some 29), none, (.ld 1 false (.t 28))⟩,
          ⟨(some 30), none, (.mov (.t 5))⟩,
          ⟨(some 31), none, (.ixA 4 (.t 29) (.t 30))⟩,
          ⟨(some 32), none, (.ld 4 true (.t 31))⟩,
          ⟨(some 33), none, (.flA 1 (.t 3))⟩,
          ⟨(some 34), none, (.ld 1 false (.t 33))⟩,
          ⟨(some 35), none, (.mov (.t 5))⟩,
          ⟨(some 36), none, (.ixA 4 (.t 34) (.t 35))⟩,
          ⟨(some 37), none, (.ld 4 true (.t 36))⟩,
          ⟨(some 38), none, (.eqn (.flat [.i, .i, .i, .i]) true (.t 32) (.t 37))⟩])
        (.cnd (.t 38)
          (.seq (.ops [⟨(some 4), none, (.mov (.k (.bool false)))⟩])
          .ret)
          .skip)))
      (.ops [⟨(some 26), none, (.mov (.t 5))⟩,
        ⟨(some 27), none, (.bin .add (.t 26) (.k (.int .i64 1)))⟩,
        ⟨(some 5), none, (.mov (.t 27))⟩]))))))
  (.seq (.ops [⟨(some 4), none, (.mov (.k (.bool true)))⟩])
  .ret))))⟩
def hint41 (P : Program) : Hint := {}

/-- aloeswood/aloeswoodkit.EqLists -/
def ir47 : IFn :=
  ⟨27, [(4, none)], (.seq (.ops [⟨(some 4), none, (.mov (.k (.bool false)))⟩])
  (.seq (.seq (.ops [⟨(some 6), none, (.mov (.t 0))⟩,
    ⟨(some 7), none, (.len false (.t 6))⟩,
    ⟨(some 8), none, (.mov (.t 1))⟩,
    ⟨(some 9), none, (.len false (.t 8))⟩,
    ⟨(some 10), none, (.bin .neq (.t 7) (.t 9))⟩])
  (.cnd (.t 10)
    (.seq (.ops [⟨(some 4), none, (.mov (.k (.bool false)))⟩])
    .ret)
    .skip))
  (.seq (.seq (.ops [⟨(some 5), none, (.mov (.k (.int .i64 0)))⟩])
  (.blk 0 (.loop (.seq (.seq (.ops [⟨(some 11), none, (.mov (.t 5))⟩,
        ⟨(some 12), none, (.mov (.t 0))⟩,
        ⟨(some 13), none, (.len false (.t 12))⟩,
        ⟨(some 14), none, (.bin .lss (.t 11) (.t 13))⟩])
      (.cnd (.t 14)
        .skip
        (.exit 0)))
      (.seq (.blk 1 (.seq (.ops [⟨(some 17), none, (.mov (.t 0))⟩,
          ⟨(some 18), none, (.mov (.t 5))⟩,
          ⟨(some 19), none, (.ixA 1 (.t 17) (.t 18))⟩,
          ⟨(some 20), none, (.ld 1 false (.t 19))⟩,
          ⟨(some 21), none, (.mov (.t 1))⟩,
          ⟨(some 22), none, (.mov (.t 5))⟩,
          ⟨(some 23), none, (.ixA 1 (.t 21) (.t 22))⟩,
          ⟨(some 24), none, (.ld 1 false (.t 23))⟩,
          ⟨(some 25), none, (.callF 24 [(.t 20), (.t 24)])⟩,
          ⟨(some 26), none, (.not (.t 25))⟩])
        (.cnd (.t 26)
          (.seq (.ops [⟨(some 4), none, (.mov (.k (.bool false)))⟩])
          .ret)
          .skip)))
      (.ops [⟨(some 15), none, (.mov (.t 5))⟩,
        ⟨(some 16), none, (.bin .add (.t 15) (.k (.int .i64 1)))⟩,
        ⟨(some 5), none, (.mov (.t 16))⟩]))))))
  (.seq (.ops [⟨(some 4), none, (.mov (.k (.bool true)))⟩])
  .ret))))⟩
def hint47 (P : Program) : Hint := {}

/-- aloeswood/aloeswoodlaw08.big -/
def ir34 : IFn :=
  ⟨23, [(2, none)], (.seq (.ops [⟨(some 1), none, (.box 2 (.t 0))⟩,
    ⟨(some 2), none, (.mov (.k (.bool false)))⟩])
  (.seq (.ops [⟨(some 3), none, (.flA 0 (.t 1))⟩,
    ⟨(some 4), none, (.ld 1 false (.t 3))⟩,
    ⟨(some 5), none, (.callF 15 [(.t 4)])⟩,
    ⟨(some 6), none, (.mov (.t 5))⟩,
    ⟨(some 7), (some (6, false)), (.flA 1 (.t 1))⟩,
    ⟨(some 8), (some (6, false)), (.ld 1 false (.t 7))⟩,
    ⟨(some 9), (some (6, false)), (.len false (.t 8))⟩,
    ⟨(some 10), (some (6, false)), (.bin .gtr (.t 9) (.k (.int .i64 16)))⟩,
    ⟨(some 11), none, (.pick (.t 6) (.k (.bool true)) (.t 10))⟩,
    ⟨(some 12), none, (.mov (.t 11))⟩,
    ⟨(some 13), (some (12, false)), (.flA 0 (.t 1))⟩,
    ⟨(some 14), (some (12, false)), (.ld 1 false (.t 13))⟩,
    ⟨(some 15), (some (12, false)), (.len false (.t 14))⟩,
    ⟨(some 16), (some (12, false)), (.bin .eql (.t 15) (.k (.int .i64 7)))⟩,
    ⟨(some 17), (some (12, false)), (.mov (.t 16))⟩,
    ⟨(some 18), (some (17, true)), (.ld 2 true (.t 1))⟩,
    ⟨(some 19), (some (17, true)), (.callF 40 [(.t 18)])⟩,
    ⟨(some 20), (some (17, true)), (.bin .eql (.t 19) (.k (.int .i64 0)))⟩,
    ⟨(some 21), (some (12, false)), (.pick (.t 17) (.t 20) (.k (.bool false)))⟩,
    ⟨(some 22), none, (.pick (.t 12) (.k (.bool true)) (.t 21))⟩,
    ⟨(some 2), none, (.mov (.t 22))⟩])
  .ret))⟩
def hint34 (P : Program) : Hint := {}

theorem eqParties_c (ga : List Guest) (ra : List Rule) (gb : List Guest) (rb : List Rule) (hg : ga.length < 2 ^ 62) (hr : ra.length < 2 ^ 62) :
    Fn0 Try.prog 41 [pA ga ra, pA gb rb] (fun v => v = .bool (decide (ga = gb ∧ ra = rb))) := by
  have hE := eqGuests_c ga gb hg
  by_cases he : ga = gb
  case neg =>
    rw [decide_eq_false he] at hE
    refine RawC.walk (H := hint41 Try.prog) ir41 Try.func41 rfl (by kernel_rfl) rfl ?_
    unfold ir41
    repeat' (first
      | with_reducible (first | refine Rd.p ?_ | refine zE ?_ | refine zE0 ?_)
      | with_reducible (first | refine zI fun y hy => ?_ | refine zL ?_ | refine zS ?_ | refine zA fun _ => ?_ | refine zV ?_ | refine zC ?_ | refine zG ?_ | refine zU ?_ | refine zG0 ?_ | refine zU0 ?_ | refine zF ?_)
      | ((with_reducible refine acall_id ?_); refine ACall.val hE rfl rfl ?_)
      | with_reducible (first | refine zX ?_ | refine zD fun _ => ?_ | refine zD0 ?_ | refine zN ?_ | refine zF0 ?_ | refine zX0 ?_ | refine z1 ?_ | refine z2 ?_ | refine z3 ?_ | refine z4 ?_ | refine z5 ?_ | refine z6 ?_ | refine z7 ?_ | refine z8 ?_ | refine y1 ?_ | refine y2 ?_ | refine y3 ?_ | refine y4 ?_ | refine y5 ?_ | refine y6 ?_ | refine y7 ?_ | refine y8 ?_ | refine Rt.p (fun _ => ?_) fun _ => ?_)
      | ((with_reducible apply w_ixM); (focus exact rfl); (focus exact rfl); case' hk => intro y hy) | ((with_reducible (first | apply w_val | apply q_ends)); (focus exact rfl)))
    refine congrArg AV.bool ?_; symm; rw [decide_eq_false_iff_not]; exact fun h => he h.1
  rw [decide_eq_true he] at hE
  by_cases hlen : ra.length = rb.length
  case neg =>
    refine RawC.walk (H := hint41 Try.prog) ir41 Try.func41 rfl (by kernel_rfl) rfl ?_
    unfold ir41
    repeat' (first
      | with_reducible (first | refine Rd.p ?_ | refine zE ?_ | refine zE0 ?_)
      | with_reducible (first | refine zI fun y hy => ?_ | refine zL ?_ | refine zS ?_ | refine zA fun _ => ?_ | refine zV ?_ | refine zC ?_ | refine zG ?_ | refine zU ?_ | refine zG0 ?_ | refine zU0 ?_ | refine zF ?_)
      | ((with_reducible refine acall_id ?_); refine ACall.val hE rfl rfl ?_)
      | with_reducible (first | refine zX ?_ | refine zD fun _ => ?_ | refine zD0 ?_ | refine zN ?_ | refine zF0 ?_ | refine zX0 ?_ | refine z1 ?_ | refine z2 ?_ | refine z3 ?_ | refine z4 ?_ | refine z5 ?_ | refine z6 ?_ | refine z7 ?_ | refine z8 ?_ | refine y1 ?_ | refine y2 ?_ | refine y3 ?_ | refine y4 ?_ | refine y5 ?_ | refine y6 ?_ | refine y7 ?_ | refine y8 ?_ | refine Rt.p (fun _ => ?_) fun _ => ?_)
      | ((with_reducible apply w_ixM); (focus exact rfl); (focus exact rfl); case' hk => intro y hy) | ((with_reducible (first | apply w_val | apply q_ends)); (focus exact rfl)))
    refine congrArg AV.bool ?_; symm; rw [decide_eq_false_iff_not]; exact fun h => hlen (by rw [h.2])
  refine RawC.walk (H := hint41 Try.prog) ir41 Try.func41 rfl (by kernel_rfl) rfl ?_
  unfold ir41
  repeat' (first
    | with_reducible (first | refine Rd.p ?_ | refine zE ?_ | refine zE0 ?_)
    | with_reducible (first | refine zI fun y hy => ?_ | refine zL ?_ | refine zS ?_ | refine zA fun _ => ?_ | refine zV ?_ | refine zC ?_ | refine zG ?_ | refine zU ?_ | refine zG0 ?_ | refine zU0 ?_ | refine zF ?_)
    | ((with_reducible refine acall_id ?_); refine ACall.val hE rfl rfl ?_)
    | with_reducible (first | refine zX ?_ | refine zD fun _ => ?_ | refine zD0 ?_ | refine zN ?_ | refine zF0 ?_ | refine zX0 ?_ | refine z1 ?_ | refine z2 ?_ | refine z3 ?_ | refine z4 ?_ | refine z5 ?_ | refine z6 ?_ | refine z7 ?_ | refine z8 ?_ | refine y1 ?_ | refine y2 ?_ | refine y3 ?_ | refine y4 ?_ | refine y5 ?_ | refine y6 ?_ | refine y7 ?_ | refine y8 ?_ | refine Rt.p (fun _ => ?_) fun _ => ?_)
    | ((with_reducible apply w_ixM); (focus exact rfl); (focus exact rfl); case' hk => intro y hy) | ((with_reducible (first | apply w_val | apply q_ends)); (focus exact rfl)))
  refine w_loopK [2, 3] [2, 3] (fun x : List Rule × List Rule × List Rule => ra = x.1 ++ x.2.1 ∧ rb = x.1 ++ x.2.2) (fun x => x.2.1.length) (fun x => [(5, .int .i64 x.1.length)]) (fun _ => []) ([], ra, rb) ⟨rfl, rfl⟩ ⟨rfl, trivial⟩ trivial ?_
  rintro ⟨pre, pa, pb⟩ ⟨ha, hb⟩ e σ
  dsimp only at ha hb ⊢
  have hla := congrArg List.length ha
  have hlb := congrArg List.length hb
  simp only [List.length_append] at hla hlb
  cases pa with
  | nil =>
    simp only [List.length_nil] at hla
    repeat' (first
      | with_reducible (first | refine Rd.p ?_ | refine zE ?_ | refine zE0 ?_)
      | with_reducible (first | refine zI fun y hy => ?_ | refine zL ?_ | refine zS ?_ | refine zA fun _ => ?_ | refine zV ?_ | refine zC ?_ | refine zG ?_ | refine zU ?_ | refine zG0 ?_ | refine zU0 ?_ | refine zF ?_)
      | with_reducible (first | refine zX ?_ | refine zD fun _ => ?_ | refine zD0 ?_ | refine zN ?_ | refine zF0 ?_ | refine zX0 ?_ | refine z1 ?_ | refine z2 ?_ | refine z3 ?_ | refine z4 ?_ | refine z5 ?_ | refine z6 ?_ | refine z7 ?_ | refine z8 ?_ | refine y1 ?_ | refine y2 ?_ | refine y3 ?_ | refine y4 ?_ | refine y5 ?_ | refine y6 ?_ | refine y7 ?_ | refine y8 ?_ | refine Rt.p (fun _ => ?_) fun _ => ?_)
      | ((with_reducible apply w_ixM); (focus exact rfl); (focus exact rfl); case' hk => intro y hy) | ((with_reducible (first | apply w_val | apply q_ends)); (focus exact rfl)))
    have : pb = [] := List.length_eq_zero_iff.1 (by omega)
    subst this
    refine congrArg AV.bool ?_; symm; rw [decide_eq_true_eq, ha, hb]; exact ⟨he, rfl⟩
  | cons x pa =>
    cases pb with
    | nil => exfalso; simp only [List.length_nil, List.length_cons] at hla hlb; omega
    | cons y pb =>
      simp only [List.length_cons] at hla hlb
      have hxy : (decide (x.kind = y.kind) && (decide (x.a = y.a) && (decide (x.b = y.b) && (decide (x.weight = y.weight) && true)))) = decide (x = y) := by
        obtain ⟨n1, r1, h1, e1⟩ := x
        obtain ⟨n2, r2, h2, e2⟩ := y
        rw [Bool.eq_iff_iff]; simp
      repeat' (first
        | with_reducible (first | refine Rd.p ?_ | refine zE ?_ | refine zE0 ?_)
        | (first | refine w_ixP ha rfl rfl ?_ | refine w_ixP hb rfl rfl ?_)
        | with_reducible (first | refine zI fun y hy => ?_ | refine zL ?_ | refine zS ?_ | refine zA fun _ => ?_ | refine zV ?_ | refine zC ?_ | refine zG ?_ | refine zU ?_ | refine zG0 ?_ | refine zU0 ?_ | refine zF ?_)
        | with_reducible (first | refine zX ?_ | refine zD fun _ => ?_ | refine zD0 ?_ | refine zN ?_ | refine zF0 ?_ | refine zX0 ?_ | refine z1 ?_ | refine z2 ?_ | refine z3 ?_ | refine z4 ?_ | refine z5 ?_ | refine z6 ?_ | refine z7 ?_ | refine z8 ?_ | refine y1 ?_ | refine y2 ?_ | refine y3 ?_ | refine y4 ?_ | refine y5 ?_ | refine y6 ?_ | refine y7 ?_ | refine y8 ?_ | refine Rt.p (fun _ => ?_) fun _ => ?_)
        | ((with_reducible apply w_ixM); (focus exact rfl); (focus exact rfl); case' hk => intro y hy) | ((with_reducible (first | apply w_val | apply q_ends)); (focus exact rfl)))
      all_goals (rename_i h; rw [hxy] at h)
      · refine congrArg AV.bool ?_; symm
        rw [decide_eq_false_iff_not]; intro e
        rw [ha, hb] at e
        have := List.append_cancel_left e.2
        simp at this h
        exact h this.1
      · simp at h
        subst h
        refine zQ (pre ++ [x], pa, pb) ?_ ?_
        · exact ⟨by rw [ha]; simp, by rw [hb]; simp⟩
        · simp
theorem eqLists_c (a b : List (List Int)) (h : a.length < 2 ^ 62) (hs : ∀ l ∈ a, l.length < 2 ^ 62) : Fn0 Try.prog 47 [.slc 1 (llR a) .non, .slc 1 (llR b) .non] (fun v => v = .bool (decide (a = b))) := by
  refine RawC.walk (H := hint47 Try.prog) ir47 Try.func47 rfl rfl rfl ?_
  unfold ir47
  repeat' (first
    | with_reducible (first | refine Rd.p ?_ | refine zE ?_ | refine zE0 ?_)
    | with_reducible (first | refine zI fun y hy => ?_ | refine zL ?_ | refine zS ?_ | refine zA fun _ => ?_ | refine zV ?_ | refine zC ?_ | refine zG ?_ | refine zU ?_ | refine zG0 ?_ | refine zU0 ?_ | refine zF ?_)
    | with_reducible (first | refine zX ?_ | refine zD fun _ => ?_ | refine zD0 ?_ | refine zN ?_ | refine zF0 ?_ | refine zX0 ?_ | refine z1 ?_ | refine z2 ?_ | refine z3 ?_ | refine z4 ?_ | refine z5 ?_ | refine z6 ?_ | refine z7 ?_ | refine z8 ?_ | refine y1 ?_ | refine y2 ?_ | refine y3 ?_ | refine y4 ?_ | refine y5 ?_ | refine y6 ?_ | refine y7 ?_ | refine y8 ?_ | refine Rt.p (fun _ => ?_) fun _ => ?_)
    | ((with_reducible apply w_ixM); (focus exact rfl); (focus exact rfl); case' hk => intro y hy) | ((with_reducible (first | apply w_val | apply q_ends)); (focus exact rfl)))
  · rename_i h; refine congrArg AV.bool ?_; symm; rw [decide_eq_false_iff_not]; intro e; subst e; exact h rfl
  rename_i hlen
  have hab : a.length = b.length := by omega
  refine w_loopK [0, 1] [] (fun x : List (List Int) × List (List Int) × List (List Int) => a = x.1 ++ x.2.1 ∧ b = x.1 ++ x.2.2) (fun x => x.2.1.length) (fun x => [(5, .int .i64 x.1.length)]) (fun _ => []) ([], a, b) ⟨rfl, rfl⟩ ⟨rfl, trivial⟩ trivial ?_
  rintro ⟨pre, pa, pb⟩ ⟨ha, hb⟩ e σ
  dsimp only at ha hb ⊢
  have hla := congrArg List.length ha
  have hlb := congrArg List.length hb
  simp only [List.length_append] at hla hlb
  cases pa with
  | nil =>
    simp only [List.length_nil] at hla
    repeat' (first
      | with_reducible (first | refine Rd.p ?_ | refine zE ?_ | refine zE0 ?_)
      | with_reducible (first | refine zI fun y hy => ?_ | refine zL ?_ | refine zS ?_ | refine zA fun _ => ?_ | refine zV ?_ | refine zC ?_ | refine zG ?_ | refine zU ?_ | refine zG0 ?_ | refine zU0 ?_ | refine zF ?_)
      | with_reducible (first | refine zX ?_ | refine zD fun _ => ?_ | refine zD0 ?_ | refine zN ?_ | refine zF0 ?_ | refine zX0 ?_ | refine z1 ?_ | refine z2 ?_ | refine z3 ?_ | refine z4 ?_ | refine z5 ?_ | refine z6 ?_ | refine z7 ?_ | refine z8 ?_ | refine y1 ?_ | refine y2 ?_ | refine y3 ?_ | refine y4 ?_ | refine y5 ?_ | refine y6 ?_ | refine y7 ?_ | refine y8 ?_ | refine Rt.p (fun _ => ?_) fun _ => ?_)
      | ((with_reducible apply w_ixM); (focus exact rfl); (focus exact rfl); case' hk => intro y hy) | ((with_reducible (first | apply w_val | apply q_ends)); (focus exact rfl)))
    have : pb = [] := List.length_eq_zero_iff.1 (by omega)
    subst this
    refine congrArg AV.bool ?_; symm; rw [decide_eq_true_eq, ha, hb]
  | cons x pa =>
    cases pb with
    | nil => exfalso; simp only [List.length_nil, List.length_cons] at hla hlb; omega
    | cons y pb =>
      simp only [List.length_cons] at hla hlb
      have hE := eq_c x y (hs x (by rw [ha]; simp))
      repeat' (first
        | with_reducible (first | refine Rd.p ?_ | refine zE ?_ | refine zE0 ?_)
        | (first | refine w_ixP ha rfl rfl ?_ | refine w_ixP hb rfl rfl ?_)
        | with_reducible (first | refine zI fun y hy => ?_ | refine zL ?_ | refine zS ?_ | refine zA fun _ => ?_ | refine zV ?_ | refine zC ?_ | refine zG ?_ | refine zU ?_ | refine zG0 ?_ | refine zU0 ?_ | refine zF ?_)
        | ((with_reducible refine acall_id ?_); refine ACall.val hE rfl rfl ?_)
        | with_reducible (first | refine zX ?_ | refine zD fun _ => ?_ | refine zD0 ?_ | refine zN ?_ | refine zF0 ?_ | refine zX0 ?_ | refine z1 ?_ | refine z2 ?_ | refine z3 ?_ | refine z4 ?_ | refine z5 ?_ | refine z6 ?_ | refine z7 ?_ | refine z8 ?_ | refine y1 ?_ | refine y2 ?_ | refine y3 ?_ | refine y4 ?_ | refine y5 ?_ | refine y6 ?_ | refine y7 ?_ | refine y8 ?_ | refine Rt.p (fun _ => ?_) fun _ => ?_)
        | ((with_reducible apply w_ixM); (focus exact rfl); (focus exact rfl); case' hk => intro y hy) | ((with_reducible (first | apply w_val | apply q_ends)); (focus exact rfl)))
      · rename_i h
        refine congrArg AV.bool ?_; symm
        rw [decide_eq_false_iff_not]; intro e
        rw [ha, hb] at e
        have := List.append_cancel_left e
        simp at this
        exact h this.1
      · rename_i h
        subst h
        refine zQ (pre ++ [x], pa, pb) ?_ ?_
        · exact ⟨by rw [ha]; simp, by rw [hb]; simp⟩
        · simp
/-- What the laws do not look at. -/
def bigB (gs : List Guest) (rs : List Rule) : Bool := longB gs || (decide (16 < rs.length) || (decide (gs.length = 7) && decide (pErr gs rs = 0)))
theorem big_c (gs : List Guest) (rs : List Rule) (hg : gs.length < 2 ^ 63) : Fn0 Try.prog 34 [pA gs rs] (fun v => v = .bool (bigB gs rs)) := by
  have hL := long_c gs hg
  cases hlong : longB gs with
  | true =>
    rw [hlong] at hL
    refine RawC.walk (H := hint34 Try.prog) ir34 Try.func34 rfl rfl rfl ?_
    unfold ir34
    repeat' (first
      | with_reducible (first | refine Rd.p ?_ | refine zE ?_ | refine zE0 ?_)
      | with_reducible (first | refine zI fun y hy => ?_ | refine zL ?_ | refine zS ?_ | refine zA fun _ => ?_ | refine zV ?_ | refine zC ?_ | refine zG ?_ | refine zU ?_ | refine zG0 ?_ | refine zU0 ?_ | refine zF ?_)
      | ((with_reducible refine acall_id ?_); refine ACall.val hL rfl rfl ?_)
      | with_reducible (first | refine zX ?_ | refine zD fun _ => ?_ | refine zD0 ?_ | refine zN ?_ | refine zF0 ?_ | refine zX0 ?_ | refine z1 ?_ | refine z2 ?_ | refine z3 ?_ | refine z4 ?_ | refine z5 ?_ | refine z6 ?_ | refine z7 ?_ | refine z8 ?_ | refine y1 ?_ | refine y2 ?_ | refine y3 ?_ | refine y4 ?_ | refine y5 ?_ | refine y6 ?_ | refine y7 ?_ | refine y8 ?_ | refine Rt.p (fun _ => ?_) fun _ => ?_)
      | ((with_reducible apply w_ixM); (focus exact rfl); (focus exact rfl); case' hk => intro y hy) | ((with_reducible (first | apply w_val | apply q_ends)); (focus exact rfl)))
    simp [bigB, hlong, tupV, untag]
  | false =>
    obtain ⟨h1, h2⟩ := longB_f hlong
    rw [hlong] at hL
    by_cases h16 : 16 < rs.length
    · refine RawC.walk (H := hint34 Try.prog) ir34 Try.func34 rfl rfl rfl ?_
      unfold ir34
      repeat' (first
        | with_reducible (first | refine Rd.p ?_ | refine zE ?_ | refine zE0 ?_)
        | with_reducible (first | refine zI fun y hy => ?_ | refine zL ?_ | refine zS ?_ | refine zA fun _ => ?_ | refine zV ?_ | refine zC ?_ | refine zG ?_ | refine zU ?_ | refine zG0 ?_ | refine zU0 ?_ | refine zF ?_)
        | ((with_reducible refine acall_id ?_); refine ACall.val hL rfl rfl ?_)
        | with_reducible (first | refine zX ?_ | refine zD fun _ => ?_ | refine zD0 ?_ | refine zN ?_ | refine zF0 ?_ | refine zX0 ?_ | refine z1 ?_ | refine z2 ?_ | refine z3 ?_ | refine z4 ?_ | refine z5 ?_ | refine z6 ?_ | refine z7 ?_ | refine z8 ?_ | refine y1 ?_ | refine y2 ?_ | refine y3 ?_ | refine y4 ?_ | refine y5 ?_ | refine y6 ?_ | refine y7 ?_ | refine y8 ?_ | refine Rt.p (fun _ => ?_) fun _ => ?_)
        | ((with_reducible apply w_ixM); (focus exact rfl); (focus exact rfl); case' hk => intro y hy) | ((with_reducible (first | apply w_val | apply q_ends)); (focus exact rfl)))
      simp [bigB, hlong, h16, tupV, untag]
    · by_cases h7 : gs.length = 7
      · refine RawC.walk (H := hint34 Try.prog) ir34 Try.func34 rfl rfl rfl ?_
        unfold ir34
        repeat' (first
          | with_reducible (first | refine Rd.p ?_ | refine zE ?_ | refine zE0 ?_)
          | with_reducible (first | refine zI fun y hy => ?_ | refine zL ?_ | refine zS ?_ | refine zA fun _ => ?_ | refine zV ?_ | refine zC ?_ | refine zG ?_ | refine zU ?_ | refine zG0 ?_ | refine zU0 ?_ | refine zF ?_)
          | ((with_reducible refine acall_id ?_); refine ACall.val hL rfl rfl ?_)
          | ((with_reducible refine acall_id ?_); refine ACall.val (rCheck_c gs rs (by omega) (by omega) (fun g hg => by have := h2 g hg; omega)) rfl rfl ?_)
          | with_reducible (first | refine zX ?_ | refine zD fun _ => ?_ | refine zD0 ?_ | refine zN ?_ | refine zF0 ?_ | refine zX0 ?_ | refine z1 ?_ | refine z2 ?_ | refine z3 ?_ | refine z4 ?_ | refine z5 ?_ | refine z6 ?_ | refine z7 ?_ | refine z8 ?_ | refine y1 ?_ | refine y2 ?_ | refine y3 ?_ | refine y4 ?_ | refine y5 ?_ | refine y6 ?_ | refine y7 ?_ | refine y8 ?_ | refine Rt.p (fun _ => ?_) fun _ => ?_)
          | ((with_reducible apply w_ixM); (focus exact rfl); (focus exact rfl); case' hk => intro y hy) | ((with_reducible (first | apply w_val | apply q_ends)); (focus exact rfl)))
        all_goals first | (simp_all [bigB, tupV, untag]; done) | (simp_all [bigB, tupV, untag]; intro h; omega)
      · refine RawC.walk (H := hint34 Try.prog) ir34 Try.func34 rfl rfl rfl ?_
        unfold ir34
        repeat' (first
          | with_reducible (first | refine Rd.p ?_ | refine zE ?_ | refine zE0 ?_)
          | with_reducible (first | refine zI fun y hy => ?_ | refine zL ?_ | refine zS ?_ | refine zA fun _ => ?_ | refine zV ?_ | refine zC ?_ | refine zG ?_ | refine zU ?_ | refine zG0 ?_ | refine zU0 ?_ | refine zF ?_)
          | ((with_reducible refine acall_id ?_); refine ACall.val hL rfl rfl ?_)
          | with_reducible (first | refine zX ?_ | refine zD fun _ => ?_ | refine zD0 ?_ | refine zN ?_ | refine zF0 ?_ | refine zX0 ?_ | refine z1 ?_ | refine z2 ?_ | refine z3 ?_ | refine z4 ?_ | refine z5 ?_ | refine z6 ?_ | refine z7 ?_ | refine z8 ?_ | refine y1 ?_ | refine y2 ?_ | refine y3 ?_ | refine y4 ?_ | refine y5 ?_ | refine y6 ?_ | refine y7 ?_ | refine y8 ?_ | refine Rt.p (fun _ => ?_) fun _ => ?_)
          | ((with_reducible apply w_ixM); (focus exact rfl); (focus exact rfl); case' hk => intro y hy) | ((with_reducible (first | apply w_val | apply q_ends)); (focus exact rfl)))
        simp [bigB, hlong, h16, h7, tupV, untag]
end Go.Abs
