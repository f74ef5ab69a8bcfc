/- A part of the proofs of the laws of this seat: contracts of the functions that they reach, each proved of the program's form in Lean. No condition beyond those that each contract names. -/
import Derived.Test.YtmekfgjlcaonjaaK4
import Derived.Test.YtmekfgjlcaonjaaD8
import Derived.Test.YtmekfgjlcaonjaaD1
import Derived.Test.YtmekfgjlcaonjaaC3
import Derived.Test.YtmekfgjlcaonjaaC2
import Derived.Test.YtmekfgjlcaonjaaC1
import Derived.Test.YtmekfgjlcaonjaaB
set_option linter.unusedVariables false
set_option linter.unusedSimpArgs false
set_option maxRecDepth 20000
set_option maxHeartbeats 4000000
namespace Go.Abs
open Go.Proofs
/-- aloeswood/aloeswoodkit.EqChains -/
def ir30 : IFn :=
  ⟨45, [(4, none)], (.seq (.ops [⟨(some 2), none, (.box 4 (.t 0))⟩,
    ⟨(some 3), none, (.box 4 (.t 1))⟩,
    ⟨(some 4), none, (.mov (.k (.bool false)))⟩])
  (.seq (.seq (.ops [⟨(some 6), none, (.flA 0 (.t 2))⟩,
    ⟨(some 7), none, (.ld 1 false (.t 6))⟩,
    ⟨(some 8), none, (.flA 0 (.t 3))⟩,
    ⟨(some 9), none, (.ld 1 false (.t 8))⟩,
    ⟨(some 10), none, (.bin .neq (.t 7) (.t 9))⟩,
    ⟨(some 11), none, (.mov (.t 10))⟩,
    ⟨(some 12), (some (11, false)), (.flA 1 (.t 2))⟩,
    ⟨(some 13), (some (11, false)), (.ld 2 true (.t 12))⟩,
    ⟨(some 14), (some (11, false)), (.flA 1 (.t 3))⟩,
    ⟨(some 15), (some (11, false)), (.ld 2 true (.t 14))⟩,
    ⟨(some 16), (some (11, false)), (.eqn (.flat [.i, .i]) true (.t 13) (.t 15))⟩,
    ⟨(some 17), none, (.pick (.t 11) (.k (.bool true)) (.t 16))⟩,
    ⟨(some 18), none, (.mov (.t 17))⟩,
    ⟨(some 19), (some (18, false)), (.flA 3 (.t 2))⟩,
    ⟨(some 20), (some (18, false)), (.ld 1 false (.t 19))⟩,
    ⟨(some 21), (some (18, false)), (.len false (.t 20))⟩,
    ⟨(some 22), (some (18, false)), (.flA 3 (.t 3))⟩,
    ⟨(some 23), (some (18, false)), (.ld 1 false (.t 22))⟩,
    ⟨(some 24), (some (18, false)), (.len false (.t 23))⟩,
    ⟨(some 25), (some (18, false)), (.bin .neq (.t 21) (.t 24))⟩,
    ⟨(some 26), none, (.pick (.t 18) (.k (.bool true)) (.t 25))⟩])
  (.cnd (.t 26)
    (.seq (.ops [⟨(some 4), none, (.mov (.k (.bool false)))⟩])
    .ret)
    .skip))
  (.seq (.seq (.ops [⟨(some 5), none, (.mov (.k (.int .i64 0)))⟩])
  (.blk 0 (.loop (.seq (.seq (.ops [⟨(some 27), none, (.mov (.t 5))⟩,
        ⟨(some 28), none, (.flA 3 (.t 2))⟩,
        ⟨(some 29), none, (.ld 1 false (.t 28))⟩,
        ⟨(some 30), none, (.len false (.t 29))⟩,
        ⟨(some 31), none, (.bin .lss (.t 27) (.t 30))⟩])
      (.cnd (.t 31)
        .skip
        (.exit 0)))
      (.seq (.blk 1 (.seq (.ops [⟨(some 34), none, (.flA 3 (.t 2))⟩,
          ⟨(some 35), none, (.ld 1 false (.t 34))⟩,
          ⟨(some 36), none, (.mov (.t 5))⟩,
          ⟨(some 37), none, (.ixA 4 (.t 35) (.t 36))⟩,
          ⟨(some 38), none, (.ld 4 true (.t 37))⟩,
          ⟨(some 39), none, (.flA 3 (.t 3))⟩,
          ⟨(some 40), none, (.ld 1 false (.t 39))⟩,
          ⟨(some 41), none, (.mov (.t 5))⟩,
          ⟨(some 42), none, (.ixA 4 (.t 40) (.t 41))⟩,
          ⟨(some 43), none, (.ld 4 true (.t 42))⟩,
          ⟨(some 44), none, (.eqn (.flat [.i, .i, .i, .i]) true (.t 38) (.t 43))⟩])
        (.cnd (.t 44)
          (.seq (.ops [⟨(some 4), none, (.mov (.k (.bool false)))⟩])
          .ret)
          .skip)))
      (.ops [⟨(some 32), none, (.mov (.t 5))⟩,
        ⟨(some 33), none, (.bin .add (.t 32) (.k (.int .i64 1)))⟩,
        ⟨(some 5), none, (.mov (.t 33))⟩]))))))
  (.seq (.ops [⟨(some 4), none, (.mov (.k (.bool true)))⟩])
  .ret))))⟩
def hint30 (P : Program) : Hint := {}
/-- aloeswood/aloeswoodkit.OwnChain -/
def ir21 : IFn :=
  ⟨9, [(2, some (4, true))], (.seq (.ops [⟨(some 1), none, (.box 4 (.t 0))⟩,
    ⟨(some 2), none, (.new [(.int .i64 0), (.int .i64 0), (.int .i64 0), .nsl])⟩])
  (.seq (.ops [⟨(some 3), none, (.bsl 4 [] [])⟩,
    ⟨(some 4), none, (.flA 3 (.t 1))⟩,
    ⟨(some 5), none, (.ld 1 false (.t 4))⟩,
    ⟨(some 6), none, (.app 4 32 (.t 3) (.t 5) 6)⟩,
    ⟨(some 7), none, (.flA 3 (.t 1))⟩,
    ⟨none, none, (.st 1 (.t 7) (.t 6))⟩])
  (.seq (.ops [⟨(some 8), none, (.ld 4 true (.t 1))⟩,
    ⟨none, none, (.st 4 (.t 2) (.t 8))⟩])
  .ret)))⟩
def hint21 (P : Program) : Hint := {}
/-- aloeswood/aloeswoodlaw09.many -/
def ir15 : IFn :=
  ⟨7, [(2, none)], (.seq (.ops [⟨(some 1), none, (.box 4 (.t 0))⟩,
    ⟨(some 2), none, (.mov (.k (.bool false)))⟩])
  (.seq (.ops [⟨(some 3), none, (.flA 3 (.t 1))⟩,
    ⟨(some 4), none, (.ld 1 false (.t 3))⟩,
    ⟨(some 5), none, (.len false (.t 4))⟩,
    ⟨(some 6), none, (.bin .gtr (.t 5) (.k (.int .i64 20)))⟩,
    ⟨(some 2), none, (.mov (.t 6))⟩])
  .ret))⟩
def hint15 (P : Program) : Hint := {}
theorem eqChains_k (c : Chn) (h : c.ls.length < 2 ^ 62) : Fn0 Try.prog 30 [cA c, cA c] (fun v => v = .bool true) := by
  refine RawC.walk (H := hint30 Try.prog) ir30 Try.func30 rfl (by kernel_rfl) rfl ?_
  unfold ir30
  repeat' (first
    | with_reducible (first | refine Rd.p ?_ | refine w_alt ?_ ?_ | refine zE ?_ | refine zE0 ?_)
    | with_reducible (first | refine zI fun y hy => ?_ | refine zL ?_ | refine zS ?_ | refine zA fun _ => ?_ | refine zV ?_ | refine zC ?_ | refine zG ?_ | refine zU ?_ | refine zG0 ?_ | refine zU0 ?_ | refine zF ?_)
    | with_reducible (first | refine zX ?_ | refine zD fun _ => ?_ | refine zD0 ?_ | refine zN ?_ | refine zF0 ?_ | refine zX0 ?_ | refine z1 ?_ | refine z2 ?_ | refine z3 ?_ | refine z4 ?_ | refine z5 ?_ | refine z6 ?_ | refine z7 ?_ | refine z8 ?_ | refine y1 ?_ | refine y2 ?_ | refine y3 ?_ | refine y4 ?_ | refine y5 ?_ | refine y6 ?_ | refine y7 ?_ | refine y8 ?_ | refine Rt.p (fun _ => ?_) fun _ => ?_)
    | ((with_reducible apply w_ixM); (focus exact rfl); (focus exact rfl); case' hk => intro y hy) | ((with_reducible (first | apply w_val | apply q_ends)); (focus exact rfl)))
  all_goals try (exfalso; simp_all; done)
  rename_i g2 g3
  refine w_loopK [2, 3] [2, 3] (fun x : List Lnk × List Lnk => c.ls = x.1 ++ x.2) (fun x => x.2.length) (fun x => [(5, .int .i64 x.1.length)]) (fun _ => []) ([], c.ls) rfl ⟨rfl, trivial⟩ trivial ?_
  rintro ⟨pre, post⟩ hpp e σ
  dsimp only at hpp ⊢
  have hlen := congrArg List.length hpp
  rw [List.length_append] at hlen
  cases post with
  | nil =>
    simp only [List.length_nil] at hlen
    repeat' (first
      | with_reducible (first | refine Rd.p ?_ | refine w_alt ?_ ?_ | refine zE ?_ | refine zE0 ?_)
      | with_reducible (first | refine zI fun y hy => ?_ | refine zL ?_ | refine zS ?_ | refine zA fun _ => ?_ | refine zV ?_ | refine zC ?_ | refine zG ?_ | refine zU ?_ | refine zG0 ?_ | refine zU0 ?_ | refine zF ?_)
      | with_reducible (first | refine zX ?_ | refine zD fun _ => ?_ | refine zD0 ?_ | refine zN ?_ | refine zF0 ?_ | refine zX0 ?_ | refine z1 ?_ | refine z2 ?_ | refine z3 ?_ | refine z4 ?_ | refine z5 ?_ | refine z6 ?_ | refine z7 ?_ | refine z8 ?_ | refine y1 ?_ | refine y2 ?_ | refine y3 ?_ | refine y4 ?_ | refine y5 ?_ | refine y6 ?_ | refine y7 ?_ | refine y8 ?_ | refine Rt.p (fun _ => ?_) fun _ => ?_)
      | ((with_reducible apply w_ixM); (focus exact rfl); (focus exact rfl); case' hk => intro y hy) | ((with_reducible (first | apply w_val | apply q_ends)); (focus exact rfl)))
    all_goals first
      | (exfalso; omega)
      | rfl
  | cons y post =>
    simp only [List.length_cons] at hlen
    repeat' (first
      | with_reducible (first | refine Rd.p ?_ | refine w_alt ?_ ?_ | refine zE ?_ | refine zE0 ?_)
      | (refine w_ixP hpp rfl rfl ?_)
      | with_reducible (first | refine zI fun y hy => ?_ | refine zL ?_ | refine zS ?_ | refine zA fun _ => ?_ | refine zV ?_ | refine zC ?_ | refine zG ?_ | refine zU ?_ | refine zG0 ?_ | refine zU0 ?_ | refine zF ?_)
      | with_reducible (first | refine zX ?_ | refine zD fun _ => ?_ | refine zD0 ?_ | refine zN ?_ | refine zF0 ?_ | refine zX0 ?_ | refine z1 ?_ | refine z2 ?_ | refine z3 ?_ | refine z4 ?_ | refine z5 ?_ | refine z6 ?_ | refine z7 ?_ | refine z8 ?_ | refine y1 ?_ | refine y2 ?_ | refine y3 ?_ | refine y4 ?_ | refine y5 ?_ | refine y6 ?_ | refine y7 ?_ | refine y8 ?_ | refine Rt.p (fun _ => ?_) fun _ => ?_)
      | ((with_reducible apply w_ixM); (focus exact rfl); (focus exact rfl); case' hk => intro y hy) | ((with_reducible (first | apply w_val | apply q_ends)); (focus exact rfl)))
    all_goals first
      | (exfalso; omega)
      | (refine q_loop (pre ++ [y], post) (by show c.ls = _; rw [hpp]; simp) (by simp) (slots_cons (by show AV.int .i64 _ = AV.int .i64 _; refine int_eq ?_; simp) slots_nil) trivial (by repeat' (first | exact kept_nil | apply kept_cons | rfl)) (by repeat' (first | exact kept_nil | apply kept_cons | rfl)))
      | (exfalso; simp_all; done)
theorem ownChainP_c (c : Chn) (hl : c.ls.length ≤ 1000) : Fn0 Try.prog 21 [cA c] (fun v => v = cA c) := by
  obtain ⟨mk, lo, hi, ls⟩ := c
  cases ls with
  | nil =>
    refine RawC.mono (ownChainE_c ⟨mk, lo, hi, []⟩ rfl) fun a s h => ?_
    obtain ⟨u, h1, _⟩ := h
    exact h1
  | cons y l =>
    refine RawC.walk (H := hint21 Try.prog) ir21 Try.func21 rfl rfl rfl ?_
    unfold ir21
    repeat' (first
      | with_reducible (first | refine Rd.p ?_ | refine w_alt ?_ ?_ | refine zE ?_ | refine zE0 ?_)
      | with_reducible (first | refine zI fun y hy => ?_ | refine zL ?_ | refine zS ?_ | refine zA fun _ => ?_ | refine zV ?_ | refine zC ?_ | refine zG ?_ | refine zU ?_ | refine zG0 ?_ | refine zU0 ?_ | refine zF ?_)
      | with_reducible (first | refine zX ?_ | refine zD fun _ => ?_ | refine zD0 ?_ | refine zN ?_ | refine zF0 ?_ | refine zX0 ?_ | refine z1 ?_ | refine z2 ?_ | refine z3 ?_ | refine z4 ?_ | refine z5 ?_ | refine z6 ?_ | refine z7 ?_ | refine z8 ?_ | refine y1 ?_ | refine y2 ?_ | refine y3 ?_ | refine y4 ?_ | refine y5 ?_ | refine y6 ?_ | refine y7 ?_ | refine y8 ?_ | refine Rt.p (fun _ => ?_) fun _ => ?_)
      | ((with_reducible apply w_ixM); (focus exact rfl); (focus exact rfl); case' hk => intro y hy) | ((with_reducible (first | apply w_val | apply q_ends)); (focus exact rfl)))
    rfl
theorem many_k (c : Chn) (hl : c.ls.length < 2 ^ 63) : Fn0 Try.prog 15 [cA c] (fun v => v = .bool (decide (20 < c.ls.length))) := by
  refine RawC.walk (H := hint15 Try.prog) ir15 Try.func15 rfl rfl rfl ?_
  unfold ir15
  repeat' (first
    | with_reducible (first | refine Rd.p ?_ | refine w_alt ?_ ?_ | refine zE ?_ | refine zE0 ?_)
    | with_reducible (first | refine zI fun y hy => ?_ | refine zL ?_ | refine zS ?_ | refine zA fun _ => ?_ | refine zV ?_ | refine zC ?_ | refine zG ?_ | refine zU ?_ | refine zG0 ?_ | refine zU0 ?_ | refine zF ?_)
    | with_reducible (first | refine zX ?_ | refine zD fun _ => ?_ | refine zD0 ?_ | refine zN ?_ | refine zF0 ?_ | refine zX0 ?_ | refine z1 ?_ | refine z2 ?_ | refine z3 ?_ | refine z4 ?_ | refine z5 ?_ | refine z6 ?_ | refine z7 ?_ | refine z8 ?_ | refine y1 ?_ | refine y2 ?_ | refine y3 ?_ | refine y4 ?_ | refine y5 ?_ | refine y6 ?_ | refine y7 ?_ | refine y8 ?_ | refine Rt.p (fun _ => ?_) fun _ => ?_)
    | ((with_reducible apply w_ixM); (focus exact rfl); (focus exact rfl); case' hk => intro y hy) | ((with_reducible (first | apply w_val | apply q_ends)); (focus exact rfl)))
  refine congrArg AV.bool ?_
  exact decide_eq_decide.2 (by omega)
end Go.Abs
