/- A part of the proofs of the laws of this seat: contracts of the functions that they reach, each proved of the program's form in Lean. No condition beyond those that each contract names. -/
import Derived.Test.YtajbhojompefoaaB0
set_option linter.unusedVariables false
set_option linter.unusedSimpArgs false
set_option maxRecDepth 20000
set_option maxHeartbeats 4000000
/-! ### Guests and dishes -/
namespace Go.Abs
open Go.Proofs
/-- aloeswood/seat.in -/
def ir19 : IFn :=
  ⟨15, [(6, none)], (.seq (.ops [⟨(some 6), none, (.mov (.k (.bool false)))⟩])
  (.seq (.ops [⟨(some 7), none, (.mov (.t 1))⟩,
    ⟨(some 8), none, (.mov (.t 0))⟩,
    ⟨(some 9), none, (.bin .leq (.t 7) (.t 8))⟩,
    ⟨(some 10), none, (.mov (.t 9))⟩,
    ⟨(some 11), (some (10, true)), (.mov (.t 0))⟩,
    ⟨(some 12), (some (10, true)), (.mov (.t 2))⟩,
    ⟨(some 13), (some (10, true)), (.bin .leq (.t 11) (.t 12))⟩,
    ⟨(some 14), none, (.pick (.t 10) (.t 13) (.k (.bool false)))⟩,
    ⟨(some 6), none, (.mov (.t 14))⟩])
  .ret))⟩
def hint19 (P : Program) : Hint := {}

/-- aloeswood/seat.checkGuest -/
def ir34 : IFn :=
  ⟨48, [(2, none)], (.seq (.ops [⟨(some 1), none, (.box 5 (.t 0))⟩,
    ⟨(some 2), none, (.mov (.k (.int .i64 0)))⟩])
  (.seq (.ops [⟨(some 6), none, (.flA 0 (.t 1))⟩,
    ⟨(some 7), none, (.ld 1 false (.t 6))⟩,
    ⟨(some 8), none, (.len true (.t 7))⟩,
    ⟨(some 9), none, (.callF 19 [(.t 8), (.k (.int .i64 1)), (.k (.int .i64 8))])⟩,
    ⟨(some 3), none, (.mov (.t 9))⟩])
  (.seq (.seq (.ops [⟨(some 10), none, (.flA 0 (.t 1))⟩,
    ⟨(some 11), none, (.ld 1 false (.t 10))⟩,
    ⟨(some 12), none, (.cvSB (.t 11))⟩,
    ⟨(some 13), none, (.len false (.t 12))⟩,
    ⟨(some 14), none, (.mov (.k (.int .i64 0)))⟩])
  (.blk 0 (.loop (.seq (.ops [⟨(some 15), none, (.bin .lss (.t 14) (.t 13))⟩])
      (.seq (.cnd (.t 15)
        .skip
        (.exit 0))
      (.seq (.blk 1 (.seq (.ops [⟨(some 16), none, (.ixA 1 (.t 12) (.t 14))⟩,
          ⟨(some 17), none, (.ld 1 false (.t 16))⟩,
          ⟨(some 5), none, (.mov (.t 17))⟩])
        (.ops [⟨(some 18), none, (.mov (.t 3))⟩,
          ⟨(some 19), none, (.mov (.t 18))⟩,
          ⟨(some 20), (some (19, true)), (.mov (.t 5))⟩,
          ⟨(some 21), (some (19, true)), (.bin .leq (.k (.int .u8 97)) (.t 20))⟩,
          ⟨(some 22), none, (.pick (.t 19) (.t 21) (.k (.bool false)))⟩,
          ⟨(some 23), none, (.mov (.t 22))⟩,
          ⟨(some 24), (some (23, true)), (.mov (.t 5))⟩,
          ⟨(some 25), (some (23, true)), (.bin .leq (.t 24) (.k (.int .u8 122)))⟩,
          ⟨(some 26), none, (.pick (.t 23) (.t 25) (.k (.bool false)))⟩,
          ⟨(some 3), none, (.mov (.t 26))⟩])))
      (.ops [⟨(some 27), none, (.bin .add (.t 14) (.k (.int .i64 1)))⟩,
        ⟨(some 14), none, (.mov (.t 27))⟩])))))))
  (.seq (.blk 2 (.seq (.ops [⟨(some 29), none, (.mov (.t 3))⟩,
      ⟨(some 30), none, (.not (.t 29))⟩,
      ⟨(some 28), none, (.mov (.t 30))⟩])
    (.cnd (.t 28)
      (.seq (.ops [⟨(some 2), none, (.mov (.k (.int .i64 3)))⟩])
      .ret)
      (.seq (.seq (.ops [⟨(some 32), none, (.flA 1 (.t 1))⟩,
        ⟨(some 33), none, (.ld 1 false (.t 32))⟩,
        ⟨(some 34), none, (.callF 19 [(.t 33), (.k (.int .i64 0)), (.k (.int .i64 9))])⟩,
        ⟨(some 35), none, (.not (.t 34))⟩,
        ⟨(some 31), none, (.mov (.t 35))⟩])
      (.cnd (.t 31)
        .skip
        (.seq (.ops [⟨(some 36), none, (.flA 2 (.t 1))⟩,
          ⟨(some 37), none, (.ld 1 false (.t 36))⟩,
          ⟨(some 38), none, (.callF 19 [(.t 37), (.k (.int .i64 0)), (.k (.int .i64 1000))])⟩,
          ⟨(some 39), none, (.not (.t 38))⟩,
          ⟨(some 31), none, (.mov (.t 39))⟩])
        (.cnd (.t 31)
          .skip
          (.seq (.ops [⟨(some 40), none, (.flA 3 (.t 1))⟩,
            ⟨(some 41), none, (.ld 1 false (.t 40))⟩,
            ⟨(some 42), none, (.callF 19 [(.t 41), (.k (.int .i64 0)), (.k (.int .i64 255))])⟩,
            ⟨(some 43), none, (.not (.t 42))⟩,
            ⟨(some 31), none, (.mov (.t 43))⟩])
          (.cnd (.t 31)
            .skip
            (.ops [⟨(some 44), none, (.flA 4 (.t 1))⟩,
              ⟨(some 45), none, (.ld 1 false (.t 44))⟩,
              ⟨(some 46), none, (.callF 19 [(.t 45), (.k (.int .i64 0)), (.k (.int .i64 255))])⟩,
              ⟨(some 47), none, (.not (.t 46))⟩,
              ⟨(some 31), none, (.mov (.t 47))⟩])))))))
      (.cnd (.t 31)
        (.seq (.ops [⟨(some 2), none, (.mov (.k (.int .i64 2)))⟩])
        .ret)
        .skip)))))
  (.seq (.ops [⟨(some 2), none, (.mov (.k (.int .i64 0)))⟩])
  .ret)))))⟩
def hint34 (P : Program) : Hint := {}

theorem in_c (n a b : Int) : Fn0 Try.prog 19 [.int .i64 n, .int .i64 a, .int .i64 b] (fun v => v = .bool (inB n a b)) := by
  refine RawC.walk (H := hint19 Try.prog) ir19 Try.func19 rfl rfl rfl ?_
  unfold ir19
  repeat' (first
    | with_reducible (first | refine Rd.p ?_ | refine zE ?_ | refine zE0 ?_)
    | with_reducible (first | refine zI fun y hy => ?_ | refine zL ?_ | refine zS ?_ | refine zA fun _ => ?_ | refine zV ?_ | refine zC ?_ | refine zG ?_ | refine zU ?_ | refine zG0 ?_ | refine zU0 ?_ | refine zF ?_)
    | with_reducible (first | refine zX ?_ | refine zD fun _ => ?_ | refine zD0 ?_ | refine zN ?_ | refine zF0 ?_ | refine zX0 ?_ | refine z1 ?_ | refine z2 ?_ | refine z3 ?_ | refine z4 ?_ | refine z5 ?_ | refine z6 ?_ | refine z7 ?_ | refine z8 ?_ | refine y1 ?_ | refine y2 ?_ | refine y3 ?_ | refine y4 ?_ | refine y5 ?_ | refine y6 ?_ | refine y7 ?_ | refine y8 ?_ | refine Rt.p (fun _ => ?_) fun _ => ?_)
    | ((with_reducible apply w_ixM); (focus exact rfl); (focus exact rfl); case' hk => intro y hy) | ((with_reducible (first | apply w_val | apply q_ends)); (focus exact rfl)))
  all_goals (simp [tupV, untag, untagL, inB]; omega)
abbrev gA (g : Guest) : AV := .agg [.str g.name, .int .i64 g.rank, .int .i64 g.honour, .int .i64 g.never, .int .i64 g.maybe]
abbrev dA (g : Dish) : AV := .agg [.int .i64 g.turn, .int .i64 g.parts, .int .i64 g.cost]
theorem gErr_eq (g : Guest) : gErr g = if namedB g.name = true then (if gOK g = true then 0 else 2) else 3 := rfl
theorem checkGuest_c (g : Guest) (hs : g.name.size ≤ 1000) : Fn0 Try.prog 34 [gA g] (fun v => v = .int .i64 (gErr g)) := by
  refine RawC.walk (H := hint34 Try.prog) ir34 Try.func34 rfl rfl rfl ?_
  unfold ir34
  repeat' (first
    | with_reducible (first | refine Rd.p ?_ | refine zE ?_ | refine zE0 ?_)
    | with_reducible (first | refine zI fun y hy => ?_ | refine zL ?_ | refine zS ?_ | refine zA fun _ => ?_ | refine zV ?_ | refine zC ?_ | refine zG ?_ | refine zU ?_ | refine zG0 ?_ | refine zU0 ?_ | refine zF ?_)
    | ((with_reducible refine acall_id ?_); refine ACall.val (in_c _ _ _) rfl rfl ?_)
    | with_reducible (first | refine zX ?_ | refine zD fun _ => ?_ | refine zD0 ?_ | refine zN ?_ | refine zF0 ?_ | refine zX0 ?_ | refine z1 ?_ | refine z2 ?_ | refine z3 ?_ | refine z4 ?_ | refine z5 ?_ | refine z6 ?_ | refine z7 ?_ | refine z8 ?_ | refine y1 ?_ | refine y2 ?_ | refine y3 ?_ | refine y4 ?_ | refine y5 ?_ | refine y6 ?_ | refine y7 ?_ | refine y8 ?_ | refine Rt.p (fun _ => ?_) fun _ => ?_)
    | ((with_reducible apply w_ixM); (focus exact rfl); (focus exact rfl); case' hk => intro y hy) | ((with_reducible (first | apply w_val | apply q_ends)); (focus exact rfl)))
  rename_i gg
  have hsz : g.name.data.toList.length ≤ 1000 := by simpa using hs
  refine w_loopK [1, 12, 13] [1] (fun x : List UInt8 × List UInt8 × Bool => g.name.data.toList = x.1 ++ x.2.1 ∧ (x.2.2 && x.2.1.all letB) = namedB g.name) (fun x => x.2.1.length) (fun x => [(3, .bool x.2.2), (14, .int .i64 x.1.length)]) (fun _ => []) ([], g.name.data.toList, _) ⟨rfl, rfl⟩ ⟨rfl, rfl, trivial⟩ trivial ?_
  rintro ⟨pre, post, b⟩ ⟨hl, hb⟩ e σ
  dsimp only at hl hb ⊢
  have hlen := congrArg List.length hl
  cases post with
  | nil =>
    simp only [List.append_nil, List.length_append, List.length_nil, List.all_nil, Bool.and_true] at hlen hb
    repeat' (first
      | with_reducible (first | refine Rd.p ?_ | refine zE ?_ | refine zE0 ?_)
      | with_reducible (first | refine zI fun y hy => ?_ | refine zL ?_ | refine zS ?_ | refine zA fun _ => ?_ | refine zV ?_ | refine zC ?_ | refine zG ?_ | refine zU ?_ | refine zG0 ?_ | refine zU0 ?_ | refine zF ?_)
      | ((with_reducible refine acall_id ?_); refine ACall.val (in_c _ _ _) rfl rfl ?_)
      | with_reducible (first | refine zX ?_ | refine zD fun _ => ?_ | refine zD0 ?_ | refine zN ?_ | refine zF0 ?_ | refine zX0 ?_ | refine z1 ?_ | refine z2 ?_ | refine z3 ?_ | refine z4 ?_ | refine z5 ?_ | refine z6 ?_ | refine z7 ?_ | refine z8 ?_ | refine y1 ?_ | refine y2 ?_ | refine y3 ?_ | refine y4 ?_ | refine y5 ?_ | refine y6 ?_ | refine y7 ?_ | refine y8 ?_ | refine Rt.p (fun _ => ?_) fun _ => ?_)
      | ((with_reducible apply w_ixM); (focus exact rfl); (focus exact rfl); case' hk => intro y hy) | ((with_reducible (first | apply w_val | apply q_ends)); (focus exact rfl)))
    all_goals (rw [gErr_eq, ← hb]; simp_all [tupV, untag, untagL, gOK])
  | cons c post =>
    simp only [List.length_append, List.length_cons] at hlen
    have hc : letB c = decide (97 ≤ (c.toNat : Int) ∧ (c.toNat : Int) ≤ 122) := rfl
    repeat' (first
      | with_reducible (first | refine Rd.p ?_ | refine zE ?_ | refine zE0 ?_)
      | (refine w_ixP hl rfl rfl ?_)
      | with_reducible (first | refine zI fun y hy => ?_ | refine zL ?_ | refine zS ?_ | refine zA fun _ => ?_ | refine zV ?_ | refine zC ?_ | refine zG ?_ | refine zU ?_ | refine zG0 ?_ | refine zU0 ?_ | refine zF ?_)
      | with_reducible (first | refine zX ?_ | refine zD fun _ => ?_ | refine zD0 ?_ | refine zN ?_ | refine zF0 ?_ | refine zX0 ?_ | refine z1 ?_ | refine z2 ?_ | refine z3 ?_ | refine z4 ?_ | refine z5 ?_ | refine z6 ?_ | refine z7 ?_ | refine z8 ?_ | refine y1 ?_ | refine y2 ?_ | refine y3 ?_ | refine y4 ?_ | refine y5 ?_ | refine y6 ?_ | refine y7 ?_ | refine y8 ?_ | refine Rt.p (fun _ => ?_) fun _ => ?_)
      | ((with_reducible apply w_ixM); (focus exact rfl); (focus exact rfl); case' hk => intro y hy) | ((with_reducible (first | apply w_val | apply q_ends)); (focus exact rfl)))
    all_goals (simp only [List.all_cons] at hb)
    all_goals
      refine zQ (pre ++ [c], post, b && letB c) ?_ ?_
      · dsimp only
        refine ⟨by rw [hl]; simp, ?_⟩
        rw [← hb, Bool.and_assoc]
      · simp
end Go.Abs
