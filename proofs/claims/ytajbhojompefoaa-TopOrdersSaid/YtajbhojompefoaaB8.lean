/- A part of the proofs of the laws of this seat: contracts of the functions that they reach, each proved of the program's form in Lean. No condition beyond those that each contract names. -/
import Derived.Test.YtajbhojompefoaaB0
import Derived.Test.YtajbhojompefoaaB2
import Derived.Test.YtajbhojompefoaaB3
set_option linter.unusedVariables false
set_option linter.unusedSimpArgs false
set_option maxRecDepth 20000
set_option maxHeartbeats 4000000
/-! ### Parties: what is valid -/
namespace Go.Abs
open Go.Proofs
/-- aloeswood/seat.checkRule -/
def ir27 : IFn :=
  ⟨61, [(4, none)], (.seq (.ops [⟨(some 2), none, (.box 4 (.t 0))⟩,
    ⟨(some 4), none, (.mov (.k (.int .i64 0)))⟩])
  (.seq (.seq (.ops [⟨(some 7), none, (.flA 0 (.t 2))⟩,
    ⟨(some 8), none, (.ld 1 false (.t 7))⟩,
    ⟨(some 9), none, (.callF 19 [(.t 8), (.k (.int .i64 1)), (.k (.int .i64 6))])⟩,
    ⟨(some 10), none, (.not (.t 9))⟩])
  (.cnd (.t 10)
    (.seq (.ops [⟨(some 4), none, (.mov (.k (.int .i64 4)))⟩])
    .ret)
    .skip))
  (.seq (.seq (.ops [⟨(some 11), none, (.flA 1 (.t 2))⟩,
    ⟨(some 12), none, (.ld 1 false (.t 11))⟩,
    ⟨(some 13), none, (.flA 2 (.t 2))⟩,
    ⟨(some 14), none, (.ld 1 false (.t 13))⟩,
    ⟨(some 15), none, (.bld [(.int .i64 0), (.int .i64 0)] [(0, 1, (.t 12)), (1, 1, (.t 14))])⟩,
    ⟨(some 16), none, (.mov (.k (.int .i64 0)))⟩])
  (.blk 0 (.loop (.seq (.ops [⟨(some 17), none, (.bin .lss (.t 16) (.k (.int .i64 2)))⟩])
      (.seq (.cnd (.t 17)
        .skip
        (.exit 0))
      (.seq (.blk 1 (.seq (.ops [⟨(some 18), none, (.mov (.t 16))⟩,
          ⟨(some 19), none, (.ixV 2 1 false (.t 15) (.t 16))⟩,
          ⟨(some 5), none, (.mov (.t 18))⟩,
          ⟨(some 6), none, (.mov (.t 19))⟩])
        (.blk 2 (.seq (.ops [⟨(some 21), none, (.mov (.t 5))⟩,
            ⟨(some 22), none, (.flA 0 (.t 2))⟩,
            ⟨(some 23), none, (.ld 1 false (.t 22))⟩,
            ⟨(some 24), none, (.callF 37 [(.t 23)])⟩,
            ⟨(some 25), none, (.bin .lss (.t 21) (.t 24))⟩,
            ⟨(some 26), none, (.mov (.t 25))⟩,
            ⟨(some 27), (some (26, true)), (.mov (.t 6))⟩,
            ⟨(some 28), (some (26, true)), (.mov (.t 1))⟩,
            ⟨(some 29), (some (26, true)), (.bin .sub (.t 28) (.k (.int .i64 1)))⟩,
            ⟨(some 30), (some (26, true)), (.callF 19 [(.t 27), (.k (.int .i64 0)), (.t 29)])⟩,
            ⟨(some 31), (some (26, true)), (.not (.t 30))⟩,
            ⟨(some 32), none, (.pick (.t 26) (.t 31) (.k (.bool false)))⟩,
            ⟨(some 20), none, (.mov (.t 32))⟩])
          (.cnd (.t 20)
            (.seq (.ops [⟨(some 4), none, (.mov (.k (.int .i64 7)))⟩])
            .ret)
            (.seq (.ops [⟨(some 34), none, (.mov (.t 5))⟩,
              ⟨(some 35), none, (.flA 0 (.t 2))⟩,
              ⟨(some 36), none, (.ld 1 false (.t 35))⟩,
              ⟨(some 37), none, (.callF 37 [(.t 36)])⟩,
              ⟨(some 38), none, (.bin .geq (.t 34) (.t 37))⟩,
              ⟨(some 39), none, (.mov (.t 38))⟩,
              ⟨(some 40), (some (39, true)), (.mov (.t 6))⟩,
              ⟨(some 41), (some (39, true)), (.bin .neq (.t 40) (.k (.int .i64 0)))⟩,
              ⟨(some 42), none, (.pick (.t 39) (.t 41) (.k (.bool false)))⟩,
              ⟨(some 33), none, (.mov (.t 42))⟩])
            (.cnd (.t 33)
              (.seq (.ops [⟨(some 4), none, (.mov (.k (.int .i64 3)))⟩])
              .ret)
              .skip)))))))
      (.ops [⟨(some 43), none, (.bin .add (.t 16) (.k (.int .i64 1)))⟩,
        ⟨(some 16), none, (.mov (.t 43))⟩])))))))
  (.seq (.blk 3 (.seq (.ops [⟨(some 45), none, (.flA 0 (.t 2))⟩,
      ⟨(some 46), none, (.ld 1 false (.t 45))⟩,
      ⟨(some 47), none, (.callF 37 [(.t 46)])⟩,
      ⟨(some 48), none, (.bin .eql (.t 47) (.k (.int .i64 2)))⟩,
      ⟨(some 49), none, (.mov (.t 48))⟩,
      ⟨(some 50), (some (49, true)), (.flA 1 (.t 2))⟩,
      ⟨(some 51), (some (49, true)), (.ld 1 false (.t 50))⟩,
      ⟨(some 52), (some (49, true)), (.flA 2 (.t 2))⟩,
      ⟨(some 53), (some (49, true)), (.ld 1 false (.t 52))⟩,
      ⟨(some 54), (some (49, true)), (.bin .eql (.t 51) (.t 53))⟩,
      ⟨(some 55), none, (.pick (.t 49) (.t 54) (.k (.bool false)))⟩,
      ⟨(some 44), none, (.mov (.t 55))⟩])
    (.cnd (.t 44)
      (.seq (.ops [⟨(some 4), none, (.mov (.k (.int .i64 3)))⟩])
      .ret)
      (.seq (.ops [⟨(some 57), none, (.flA 3 (.t 2))⟩,
        ⟨(some 58), none, (.ld 1 false (.t 57))⟩,
        ⟨(some 59), none, (.callF 19 [(.t 58), (.k (.int .i64 0)), (.k (.int .i64 1000))])⟩,
        ⟨(some 60), none, (.not (.t 59))⟩,
        ⟨(some 56), none, (.mov (.t 60))⟩])
      (.cnd (.t 56)
        (.seq (.ops [⟨(some 4), none, (.mov (.k (.int .i64 2)))⟩])
        .ret)
        .skip)))))
  (.seq (.ops [⟨(some 4), none, (.mov (.k (.int .i64 0)))⟩])
  .ret)))))⟩
def hint27 (P : Program) : Hint := {}

/-- aloeswood/seat.names -/
def ir37 : IFn :=
  ⟨9, [(2, none)], (.seq (.ops [⟨(some 2), none, (.mov (.k (.int .i64 0)))⟩])
  (.seq (.seq (.ops [⟨(some 3), none, (.mov (.t 0))⟩])
  (.blk 0 (.seq (.seq (.ops [⟨(some 5), none, (.bin .eql (.t 3) (.k (.int .i64 4)))⟩,
      ⟨(some 4), none, (.mov (.t 5))⟩])
    (.cnd (.t 4)
      .skip
      (.ops [⟨(some 6), none, (.bin .eql (.t 3) (.k (.int .i64 5)))⟩,
        ⟨(some 4), none, (.mov (.t 6))⟩])))
    (.cnd (.t 4)
      (.seq (.ops [⟨(some 2), none, (.mov (.k (.int .i64 1)))⟩])
      .ret)
      (.seq (.ops [⟨(some 8), none, (.bin .eql (.t 3) (.k (.int .i64 6)))⟩,
        ⟨(some 7), none, (.mov (.t 8))⟩])
      (.cnd (.t 7)
        (.seq (.ops [⟨(some 2), none, (.mov (.k (.int .i64 0)))⟩])
        .ret)
        .skip))))))
  (.seq (.ops [⟨(some 2), none, (.mov (.k (.int .i64 2)))⟩])
  .ret)))⟩
def hint37 (P : Program) : Hint := {}

/-- aloeswood/seat.Check -/
def ir18 : IFn :=
  ⟨43, [(2, none)], (.seq (.ops [⟨(some 1), none, (.box 2 (.t 0))⟩,
    ⟨(some 2), none, (.mov (.k (.int .i64 0)))⟩])
  (.seq (.blk 0 (.seq (.ops [⟨(some 8), none, (.flA 0 (.t 1))⟩,
      ⟨(some 9), none, (.ld 1 false (.t 8))⟩,
      ⟨(some 10), none, (.len false (.t 9))⟩,
      ⟨(some 11), none, (.bin .eql (.t 10) (.k (.int .i64 0)))⟩,
      ⟨(some 7), none, (.mov (.t 11))⟩])
    (.cnd (.t 7)
      (.seq (.ops [⟨(some 2), none, (.mov (.k (.int .i64 6)))⟩])
      .ret)
      (.seq (.ops [⟨(some 13), none, (.flA 0 (.t 1))⟩,
        ⟨(some 14), none, (.ld 1 false (.t 13))⟩,
        ⟨(some 15), none, (.len false (.t 14))⟩,
        ⟨(some 16), none, (.bin .gtr (.t 15) (.k (.int .i64 7)))⟩,
        ⟨(some 12), none, (.mov (.t 16))⟩])
      (.cnd (.t 12)
        (.seq (.ops [⟨(some 2), none, (.mov (.k (.int .i64 8)))⟩])
        .ret)
        .skip)))))
  (.seq (.seq (.ops [⟨(some 17), none, (.flA 0 (.t 1))⟩,
    ⟨(some 18), none, (.ld 1 false (.t 17))⟩,
    ⟨(some 19), none, (.callF 26 [(.t 18)])⟩,
    ⟨(some 3), none, (.mov (.t 19))⟩])
  (.seq (.ops [⟨(some 20), none, (.mov (.t 3))⟩,
    ⟨(some 21), none, (.bin .neq (.t 20) (.k (.int .i64 0)))⟩])
  (.cnd (.t 21)
    (.seq (.ops [⟨(some 22), none, (.mov (.t 3))⟩,
      ⟨(some 2), none, (.mov (.t 22))⟩])
    .ret)
    .skip)))
  (.seq (.seq (.ops [⟨(some 23), none, (.flA 1 (.t 1))⟩,
    ⟨(some 24), none, (.ld 1 false (.t 23))⟩,
    ⟨(some 25), none, (.len false (.t 24))⟩,
    ⟨(some 26), none, (.bin .gtr (.t 25) (.k (.int .i64 12)))⟩])
  (.cnd (.t 26)
    (.seq (.ops [⟨(some 2), none, (.mov (.k (.int .i64 8)))⟩])
    .ret)
    .skip))
  (.seq (.seq (.ops [⟨(some 27), none, (.flA 1 (.t 1))⟩,
    ⟨(some 28), none, (.ld 1 false (.t 27))⟩,
    ⟨(some 29), none, (.len false (.t 28))⟩,
    ⟨(some 30), none, (.mov (.k (.int .i64 0)))⟩])
  (.blk 1 (.loop (.seq (.ops [⟨(some 31), none, (.bin .lss (.t 30) (.t 29))⟩])
      (.seq (.cnd (.t 31)
        .skip
        (.exit 1))
      (.seq (.blk 2 (.seq (.ops [⟨(some 32), none, (.ixA 4 (.t 28) (.t 30))⟩,
          ⟨(some 33), none, (.ld 4 true (.t 32))⟩,
          ⟨(some 5), none, (.new [(.int .i64 0), (.int .i64 0), (.int .i64 0), (.int .i64 0)])⟩,
          ⟨none, none, (.st 4 (.t 5) (.t 33))⟩])
        (.seq (.ops [⟨(some 34), none, (.ld 4 true (.t 5))⟩,
          ⟨(some 35), none, (.flA 0 (.t 1))⟩,
          ⟨(some 36), none, (.ld 1 false (.t 35))⟩,
          ⟨(some 37), none, (.len false (.t 36))⟩,
          ⟨(some 38), none, (.callF 27 [(.t 34), (.t 37)])⟩,
          ⟨(some 6), none, (.mov (.t 38))⟩])
        (.seq (.ops [⟨(some 39), none, (.mov (.t 6))⟩,
          ⟨(some 40), none, (.bin .neq (.t 39) (.k (.int .i64 0)))⟩])
        (.cnd (.t 40)
          (.seq (.ops [⟨(some 41), none, (.mov (.t 6))⟩,
            ⟨(some 2), none, (.mov (.t 41))⟩])
          .ret)
          .skip)))))
      (.ops [⟨(some 42), none, (.bin .add (.t 30) (.k (.int .i64 1)))⟩,
        ⟨(some 30), none, (.mov (.t 42))⟩])))))))
  (.seq (.ops [⟨(some 2), none, (.mov (.k (.int .i64 0)))⟩])
  .ret))))))⟩
def hint18 (P : Program) : Hint := {}

def nmV (k : Int) : Int := if k = 4 ∨ k = 5 then 1 else if k = 6 then 0 else 2
theorem nmV_bd (k : Int) : 0 ≤ nmV k ∧ nmV k ≤ 2 := by unfold nmV; split <;> (try split) <;> omega
def argE (i x nm n : Int) : Int := if i < nm then (if inB x 0 (n - 1) = true then 0 else 7) else (if x = 0 then 0 else 3)
/-- The error of a rule, for so many guests. -/
def rErr (r : Rule) (n : Int) : Int :=
  if inB r.kind 1 6 = true then
    if argE 0 r.a (nmV r.kind) n = 0 then
      if argE 1 r.b (nmV r.kind) n = 0 then
        if nmV r.kind = 2 ∧ r.a = r.b then 3 else if inB r.weight 0 1000 = true then 0 else 2
      else argE 1 r.b (nmV r.kind) n
    else argE 0 r.a (nmV r.kind) n
  else 4
theorem names_c (k : Int) : Fn0 Try.prog 37 [.int .i64 k] (fun v => v = .int .i64 (nmV k)) := by
  refine RawC.walk (H := hint37 Try.prog) ir37 Try.func37 rfl rfl rfl ?_
  unfold ir37
  repeat' (first
    | with_reducible (first | refine Rd.p ?_ | refine zE ?_ | refine zE0 ?_)
    | with_reducible (first | refine zI fun y hy => ?_ | refine zL ?_ | refine zS ?_ | refine zA fun _ => ?_ | refine zV ?_ | refine zC ?_ | refine zG ?_ | refine zU ?_ | refine zG0 ?_ | refine zU0 ?_ | refine zF ?_)
    | with_reducible (first | refine zX ?_ | refine zD fun _ => ?_ | refine zD0 ?_ | refine zN ?_ | refine zF0 ?_ | refine zX0 ?_ | refine z1 ?_ | refine z2 ?_ | refine z3 ?_ | refine z4 ?_ | refine z5 ?_ | refine z6 ?_ | refine z7 ?_ | refine z8 ?_ | refine y1 ?_ | refine y2 ?_ | refine y3 ?_ | refine y4 ?_ | refine y5 ?_ | refine y6 ?_ | refine y7 ?_ | refine y8 ?_ | refine Rt.p (fun _ => ?_) fun _ => ?_)
    | ((with_reducible apply w_ixM); (focus exact rfl); (focus exact rfl); case' hk => intro y hy) | ((with_reducible (first | apply w_val | apply q_ends)); (focus exact rfl)))
  all_goals (refine int_eq ?_; unfold nmV; (repeat' split) <;> omega)
abbrev rA (g : Rule) : AV := .agg [.int .i64 g.kind, .int .i64 g.a, .int .i64 g.b, .int .i64 g.weight]
theorem checkRule_c (r : Rule) (n : Int) (hn : 0 ≤ n ∧ n ≤ 1000) : Fn0 Try.prog 27 [rA r, .int .i64 n] (fun v => v = .int .i64 (rErr r n)) := by
  have hnm := nmV_bd r.kind
  refine RawC.walk (H := hint27 Try.prog) ir27 Try.func27 rfl rfl rfl ?_
  unfold ir27
  repeat' (first
    | with_reducible (first | refine Rd.p ?_ | refine zE ?_ | refine zE0 ?_)
    | with_reducible (first | refine zI fun y hy => ?_ | refine zL ?_ | refine zS ?_ | refine zA fun _ => ?_ | refine zV ?_ | refine zC ?_ | refine zG ?_ | refine zU ?_ | refine zG0 ?_ | refine zU0 ?_ | refine zF ?_)
    | ((with_reducible refine acall_id ?_); refine ACall.val (in_c _ _ _) rfl rfl ?_)
    | ((with_reducible refine acall_id ?_); refine ACall.val (names_c _) rfl rfl ?_)
    | with_reducible (first | refine zX ?_ | refine zD fun _ => ?_ | refine zD0 ?_ | refine zN ?_ | refine zF0 ?_ | refine zX0 ?_ | refine z1 ?_ | refine z2 ?_ | refine z3 ?_ | refine z4 ?_ | refine z5 ?_ | refine z6 ?_ | refine z7 ?_ | refine z8 ?_ | refine y1 ?_ | refine y2 ?_ | refine y3 ?_ | refine y4 ?_ | refine y5 ?_ | refine y6 ?_ | refine y7 ?_ | refine y8 ?_ | refine Rt.p (fun _ => ?_) fun _ => ?_)
    | ((with_reducible apply w_ixM); (focus exact rfl); (focus exact rfl); case' hk => intro y hy) | ((with_reducible (first | apply w_val | apply q_ends)); (focus exact rfl)))
  · rename_i h; rw [rErr, if_neg (by rw [h]; simp)]; rfl
  rename_i g2 h1
  refine w_loopK [1, 2, 15] [2] (fun k : Nat => k ≤ 2 ∧ (1 ≤ k → argE 0 r.a (nmV r.kind) n = 0) ∧ (2 ≤ k → argE 1 r.b (nmV r.kind) n = 0)) (fun k => 2 - k) (fun k => [(16, .int .i64 k)]) (fun _ => []) 0 ⟨by omega, by omega, by omega⟩ ⟨rfl, trivial⟩ trivial ?_
  rintro k ⟨hk, hc0, hc1⟩ e σ
  dsimp only
  have h0 : k = 0 ∨ k = 1 ∨ k = 2 := by omega
  rcases h0 with rfl | rfl | rfl
  · repeat' (first
      | with_reducible (first | refine Rd.p ?_ | refine zE ?_ | refine zE0 ?_)
      | with_reducible (first | refine zI fun y hy => ?_ | refine zL ?_ | refine zS ?_ | refine zA fun _ => ?_ | refine zV ?_ | refine zC ?_ | refine zG ?_ | refine zU ?_ | refine zG0 ?_ | refine zU0 ?_ | refine zF ?_)
      | ((with_reducible refine acall_id ?_); refine ACall.val (in_c _ _ _) rfl rfl ?_)
      | ((with_reducible refine acall_id ?_); refine ACall.val (names_c _) rfl rfl ?_)
      | with_reducible (first | refine zX ?_ | refine zD fun _ => ?_ | refine zD0 ?_ | refine zN ?_ | refine zF0 ?_ | refine zX0 ?_ | refine z1 ?_ | refine z2 ?_ | refine z3 ?_ | refine z4 ?_ | refine z5 ?_ | refine z6 ?_ | refine z7 ?_ | refine z8 ?_ | refine y1 ?_ | refine y2 ?_ | refine y3 ?_ | refine y4 ?_ | refine y5 ?_ | refine y6 ?_ | refine y7 ?_ | refine y8 ?_ | refine Rt.p (fun _ => ?_) fun _ => ?_)
      | ((with_reducible apply w_ixM); (focus exact rfl); (focus exact rfl); case' hk => intro y hy) | ((with_reducible (first | apply w_val | apply q_ends)); (focus exact rfl)))
    · rename_i h2 h3
      have he : argE 0 r.a (nmV r.kind) n = 7 := by rw [argE, if_pos (by omega), if_neg (by rw [h3]; simp)]
      rw [rErr, if_pos h1, if_neg (by omega), he]; rfl
    · rename_i h2 h3
      have he : argE 0 r.a (nmV r.kind) n = 0 := by rw [argE, if_pos (by omega), if_pos h3]
      refine zQ (1 : Nat) ?_ ?_
      · exact ⟨by omega, fun _ => he, by omega⟩
      · omega
    · rename_i h2 h3
      have he : argE 0 r.a (nmV r.kind) n = 3 := by rw [argE, if_neg (by omega), if_neg h3]
      rw [rErr, if_pos h1, if_neg (by omega), he]; rfl
    · rename_i h2 h3
      have he : argE 0 r.a (nmV r.kind) n = 0 := by rw [argE, if_neg (by omega), if_pos (by omega)]
      refine zQ (1 : Nat) ?_ ?_
      · exact ⟨by omega, fun _ => he, by omega⟩
      · omega
  · repeat' (first
      | with_reducible (first | refine Rd.p ?_ | refine zE ?_ | refine zE0 ?_)
      | with_reducible (first | refine zI fun y hy => ?_ | refine zL ?_ | refine zS ?_ | refine zA fun _ => ?_ | refine zV ?_ | refine zC ?_ | refine zG ?_ | refine zU ?_ | refine zG0 ?_ | refine zU0 ?_ | refine zF ?_)
      | ((with_reducible refine acall_id ?_); refine ACall.val (in_c _ _ _) rfl rfl ?_)
      | ((with_reducible refine acall_id ?_); refine ACall.val (names_c _) rfl rfl ?_)
      | with_reducible (first | refine zX ?_ | refine zD fun _ => ?_ | refine zD0 ?_ | refine zN ?_ | refine zF0 ?_ | refine zX0 ?_ | refine z1 ?_ | refine z2 ?_ | refine z3 ?_ | refine z4 ?_ | refine z5 ?_ | refine z6 ?_ | refine z7 ?_ | refine z8 ?_ | refine y1 ?_ | refine y2 ?_ | refine y3 ?_ | refine y4 ?_ | refine y5 ?_ | refine y6 ?_ | refine y7 ?_ | refine y8 ?_ | refine Rt.p (fun _ => ?_) fun _ => ?_)
      | ((with_reducible apply w_ixM); (focus exact rfl); (focus exact rfl); case' hk => intro y hy) | ((with_reducible (first | apply w_val | apply q_ends)); (focus exact rfl)))
    · rename_i h2 h3
      have he : argE 1 r.b (nmV r.kind) n = 7 := by rw [argE, if_pos (by omega), if_neg (by rw [h3]; simp)]
      rw [rErr, if_pos h1, if_pos (hc0 (by omega)), if_neg (by omega), he]; rfl
    · rename_i h2 h3
      have he : argE 1 r.b (nmV r.kind) n = 0 := by rw [argE, if_pos (by omega), if_pos h3]
      refine zQ (2 : Nat) ?_ ?_
      · exact ⟨by omega, fun _ => hc0 (by omega), fun _ => he⟩
      · omega
    · rename_i h2 h3
      have he : argE 1 r.b (nmV r.kind) n = 3 := by rw [argE, if_neg (by omega), if_neg h3]
      rw [rErr, if_pos h1, if_pos (hc0 (by omega)), if_neg (by omega), he]; rfl
    · rename_i h2 h3
      have he : argE 1 r.b (nmV r.kind) n = 0 := by rw [argE, if_neg (by omega), if_pos (by omega)]
      refine zQ (2 : Nat) ?_ ?_
      · exact ⟨by omega, fun _ => hc0 (by omega), fun _ => he⟩
      · omega
  · have hp : rErr r n = if nmV r.kind = 2 ∧ r.a = r.b then 3 else if inB r.weight 0 1000 = true then 0 else 2 := by rw [rErr, if_pos h1, if_pos (hc0 (by omega)), if_pos (hc1 (by omega))]
    rw [hp]
    repeat' (first
      | with_reducible (first | refine Rd.p ?_ | refine zE ?_ | refine zE0 ?_)
      | with_reducible (first | refine zI fun y hy => ?_ | refine zL ?_ | refine zS ?_ | refine zA fun _ => ?_ | refine zV ?_ | refine zC ?_ | refine zG ?_ | refine zU ?_ | refine zG0 ?_ | refine zU0 ?_ | refine zF ?_)
      | ((with_reducible refine acall_id ?_); refine ACall.val (in_c _ _ _) rfl rfl ?_)
      | ((with_reducible refine acall_id ?_); refine ACall.val (names_c _) rfl rfl ?_)
      | with_reducible (first | refine zX ?_ | refine zD fun _ => ?_ | refine zD0 ?_ | refine zN ?_ | refine zF0 ?_ | refine zX0 ?_ | refine z1 ?_ | refine z2 ?_ | refine z3 ?_ | refine z4 ?_ | refine z5 ?_ | refine z6 ?_ | refine z7 ?_ | refine z8 ?_ | refine y1 ?_ | refine y2 ?_ | refine y3 ?_ | refine y4 ?_ | refine y5 ?_ | refine y6 ?_ | refine y7 ?_ | refine y8 ?_ | refine Rt.p (fun _ => ?_) fun _ => ?_)
      | ((with_reducible apply w_ixM); (focus exact rfl); (focus exact rfl); case' hk => intro y hy) | ((with_reducible (first | apply w_val | apply q_ends)); (focus exact rfl)))
    · rename_i h2 h3; rw [if_pos ⟨h2, h3⟩]; rfl
    · rename_i h2 h3 h4; rw [if_neg (by omega), if_neg (by rw [h4]; simp)]; rfl
    · rename_i h2 h3 h4; rw [if_neg (by omega), if_pos h4]; rfl
    · rename_i h2 h4; rw [if_neg (by omega), if_neg (by rw [h4]; simp)]; rfl
    · rename_i h2 h4; rw [if_neg (by omega), if_pos h4]; rfl
def rsErr (n : Int) : List Rule → Int
  | [] => 0
  | r :: rs => if rErr r n = 0 then rsErr n rs else rErr r n
/-- The error of a party. -/
def pErr (gs : List Guest) (rs : List Rule) : Int :=
  if gs.length = 0 then 6 else if 7 < gs.length then 8 else if gsErr [] gs = 0 then (if 12 < rs.length then 8 else rsErr gs.length rs) else gsErr [] gs
abbrev pA (gs : List Guest) (rs : List Rule) : AV := .agg [.slc 5 (gR gs) .non, .slc 4 (rR rs) .non]
theorem Check_c (gs : List Guest) (rs : List Rule) (hl0 : gs.length < 1000) (hr0 : rs.length < 1000) (hs : ∀ g ∈ gs, g.name.size ≤ 1000) : Fn0 Try.prog 18 [pA gs rs] (fun v => v = .int .i64 (pErr gs rs)) := by
  by_cases h0 : gs.length = 0
  · rw [pErr, if_pos h0]
    refine RawC.walk (H := hint18 Try.prog) ir18 Try.func18 rfl rfl rfl ?_
    unfold ir18
    repeat' (first
      | with_reducible (first | refine Rd.p ?_ | refine zE ?_ | refine zE0 ?_)
      | with_reducible (first | refine zI fun y hy => ?_ | refine zL ?_ | refine zS ?_ | refine zA fun _ => ?_ | refine zV ?_ | refine zC ?_ | refine zG ?_ | refine zU ?_ | refine zG0 ?_ | refine zU0 ?_ | refine zF ?_)
      | with_reducible (first | refine zX ?_ | refine zD fun _ => ?_ | refine zD0 ?_ | refine zN ?_ | refine zF0 ?_ | refine zX0 ?_ | refine z1 ?_ | refine z2 ?_ | refine z3 ?_ | refine z4 ?_ | refine z5 ?_ | refine z6 ?_ | refine z7 ?_ | refine z8 ?_ | refine y1 ?_ | refine y2 ?_ | refine y3 ?_ | refine y4 ?_ | refine y5 ?_ | refine y6 ?_ | refine y7 ?_ | refine y8 ?_ | refine Rt.p (fun _ => ?_) fun _ => ?_)
      | ((with_reducible apply w_ixM); (focus exact rfl); (focus exact rfl); case' hk => intro y hy) | ((with_reducible (first | apply w_val | apply q_ends)); (focus exact rfl)))
    rfl
  by_cases h7 : 7 < gs.length
  · rw [pErr, if_neg h0, if_pos h7]
    refine RawC.walk (H := hint18 Try.prog) ir18 Try.func18 rfl rfl rfl ?_
    unfold ir18
    repeat' (first
      | with_reducible (first | refine Rd.p ?_ | refine zE ?_ | refine zE0 ?_)
      | with_reducible (first | refine zI fun y hy => ?_ | refine zL ?_ | refine zS ?_ | refine zA fun _ => ?_ | refine zV ?_ | refine zC ?_ | refine zG ?_ | refine zU ?_ | refine zG0 ?_ | refine zU0 ?_ | refine zF ?_)
      | with_reducible (first | refine zX ?_ | refine zD fun _ => ?_ | refine zD0 ?_ | refine zN ?_ | refine zF0 ?_ | refine zX0 ?_ | refine z1 ?_ | refine z2 ?_ | refine z3 ?_ | refine z4 ?_ | refine z5 ?_ | refine z6 ?_ | refine z7 ?_ | refine z8 ?_ | refine y1 ?_ | refine y2 ?_ | refine y3 ?_ | refine y4 ?_ | refine y5 ?_ | refine y6 ?_ | refine y7 ?_ | refine y8 ?_ | refine Rt.p (fun _ => ?_) fun _ => ?_)
      | ((with_reducible apply w_ixM); (focus exact rfl); (focus exact rfl); case' hk => intro y hy) | ((with_reducible (first | apply w_val | apply q_ends)); (focus exact rfl)))
    rfl
  by_cases hg : gsErr [] gs = 0
  case neg =>
    rw [pErr, if_neg h0, if_neg h7, if_neg hg]
    refine RawC.walk (H := hint18 Try.prog) ir18 Try.func18 rfl rfl rfl ?_
    unfold ir18
    repeat' (first
      | with_reducible (first | refine Rd.p ?_ | refine zE ?_ | refine zE0 ?_)
      | with_reducible (first | refine zI fun y hy => ?_ | refine zL ?_ | refine zS ?_ | refine zA fun _ => ?_ | refine zV ?_ | refine zC ?_ | refine zG ?_ | refine zU ?_ | refine zG0 ?_ | refine zU0 ?_ | refine zF ?_)
      | ((with_reducible refine acall_id ?_); refine ACall.val (checkGuests_c gs hl0 hs) rfl rfl ?_)
      | with_reducible (first | refine zX ?_ | refine zD fun _ => ?_ | refine zD0 ?_ | refine zN ?_ | refine zF0 ?_ | refine zX0 ?_ | refine z1 ?_ | refine z2 ?_ | refine z3 ?_ | refine z4 ?_ | refine z5 ?_ | refine z6 ?_ | refine z7 ?_ | refine z8 ?_ | refine y1 ?_ | refine y2 ?_ | refine y3 ?_ | refine y4 ?_ | refine y5 ?_ | refine y6 ?_ | refine y7 ?_ | refine y8 ?_ | refine Rt.p (fun _ => ?_) fun _ => ?_)
      | ((with_reducible apply w_ixM); (focus exact rfl); (focus exact rfl); case' hk => intro y hy) | ((with_reducible (first | apply w_val | apply q_ends)); (focus exact rfl)))
    rfl
  by_cases h12 : 12 < rs.length
  · rw [pErr, if_neg h0, if_neg h7, if_pos hg, if_pos h12]
    refine RawC.walk (H := hint18 Try.prog) ir18 Try.func18 rfl rfl rfl ?_
    unfold ir18
    repeat' (first
      | with_reducible (first | refine Rd.p ?_ | refine zE ?_ | refine zE0 ?_)
      | with_reducible (first | refine zI fun y hy => ?_ | refine zL ?_ | refine zS ?_ | refine zA fun _ => ?_ | refine zV ?_ | refine zC ?_ | refine zG ?_ | refine zU ?_ | refine zG0 ?_ | refine zU0 ?_ | refine zF ?_)
      | ((with_reducible refine acall_id ?_); refine ACall.val (checkGuests_c gs hl0 hs) rfl rfl ?_)
      | with_reducible (first | refine zX ?_ | refine zD fun _ => ?_ | refine zD0 ?_ | refine zN ?_ | refine zF0 ?_ | refine zX0 ?_ | refine z1 ?_ | refine z2 ?_ | refine z3 ?_ | refine z4 ?_ | refine z5 ?_ | refine z6 ?_ | refine z7 ?_ | refine z8 ?_ | refine y1 ?_ | refine y2 ?_ | refine y3 ?_ | refine y4 ?_ | refine y5 ?_ | refine y6 ?_ | refine y7 ?_ | refine y8 ?_ | refine Rt.p (fun _ => ?_) fun _ => ?_)
      | ((with_reducible apply w_ixM); (focus exact rfl); (focus exact rfl); case' hk => intro y hy) | ((with_reducible (first | apply w_val | apply q_ends)); (focus exact rfl)))
    rfl
  rw [pErr, if_neg h0, if_neg h7, if_pos hg, if_neg h12]
  refine RawC.walk (H := hint18 Try.prog) ir18 Try.func18 rfl rfl rfl ?_
  unfold ir18
  repeat' (first
    | with_reducible (first | refine Rd.p ?_ | refine zE ?_ | refine zE0 ?_)
    | with_reducible (first | refine zI fun y hy => ?_ | refine zL ?_ | refine zS ?_ | refine zA fun _ => ?_ | refine zV ?_ | refine zC ?_ | refine zG ?_ | refine zU ?_ | refine zG0 ?_ | refine zU0 ?_ | refine zF ?_)
    | ((with_reducible refine acall_id ?_); refine ACall.val (checkGuests_c gs hl0 hs) rfl rfl ?_)
    | with_reducible (first | refine zX ?_ | refine zD fun _ => ?_ | refine zD0 ?_ | refine zN ?_ | refine zF0 ?_ | refine zX0 ?_ | refine z1 ?_ | refine z2 ?_ | refine z3 ?_ | refine z4 ?_ | refine z5 ?_ | refine z6 ?_ | refine z7 ?_ | refine z8 ?_ | refine y1 ?_ | refine y2 ?_ | refine y3 ?_ | refine y4 ?_ | refine y5 ?_ | refine y6 ?_ | refine y7 ?_ | refine y8 ?_ | refine Rt.p (fun _ => ?_) fun _ => ?_)
    | ((with_reducible apply w_ixM); (focus exact rfl); (focus exact rfl); case' hk => intro y hy) | ((with_reducible (first | apply w_val | apply q_ends)); (focus exact rfl)))
  refine w_loopK [1, 28, 29] [1] (fun x : List Rule × List Rule => rs = x.1 ++ x.2 ∧ rsErr gs.length rs = rsErr gs.length x.2) (fun x => x.2.length) (fun x => [(30, .int .i64 x.1.length)]) (fun _ => []) ([], rs) ⟨rfl, rfl⟩ ⟨rfl, trivial⟩ trivial ?_
  rintro ⟨pre, post⟩ ⟨hl, hb⟩ e σ
  dsimp only at hl hb ⊢
  have hlen := congrArg List.length hl
  cases post with
  | nil =>
    simp only [List.append_nil, List.length_append, List.length_nil] at hlen
    repeat' (first
      | with_reducible (first | refine Rd.p ?_ | refine zE ?_ | refine zE0 ?_)
      | with_reducible (first | refine zI fun y hy => ?_ | refine zL ?_ | refine zS ?_ | refine zA fun _ => ?_ | refine zV ?_ | refine zC ?_ | refine zG ?_ | refine zU ?_ | refine zG0 ?_ | refine zU0 ?_ | refine zF ?_)
      | with_reducible (first | refine zX ?_ | refine zD fun _ => ?_ | refine zD0 ?_ | refine zN ?_ | refine zF0 ?_ | refine zX0 ?_ | refine z1 ?_ | refine z2 ?_ | refine z3 ?_ | refine z4 ?_ | refine z5 ?_ | refine z6 ?_ | refine z7 ?_ | refine z8 ?_ | refine y1 ?_ | refine y2 ?_ | refine y3 ?_ | refine y4 ?_ | refine y5 ?_ | refine y6 ?_ | refine y7 ?_ | refine y8 ?_ | refine Rt.p (fun _ => ?_) fun _ => ?_)
      | ((with_reducible apply w_ixM); (focus exact rfl); (focus exact rfl); case' hk => intro y hy) | ((with_reducible (first | apply w_val | apply q_ends)); (focus exact rfl)))
    rw [hb]; rfl
  | cons r post =>
    simp only [List.length_append, List.length_cons] at hlen
    simp only [rsErr] at hb
    repeat' (first
      | with_reducible (first | refine Rd.p ?_ | refine zE ?_ | refine zE0 ?_)
      | (refine w_ixP hl rfl rfl ?_)
      | with_reducible (first | refine zI fun y hy => ?_ | refine zL ?_ | refine zS ?_ | refine zA fun _ => ?_ | refine zV ?_ | refine zC ?_ | refine zG ?_ | refine zU ?_ | refine zG0 ?_ | refine zU0 ?_ | refine zF ?_)
      | ((with_reducible refine acall_id ?_); refine ACall.val (checkRule_c r _ (by omega)) rfl rfl ?_)
      | with_reducible (first | refine zX ?_ | refine zD fun _ => ?_ | refine zD0 ?_ | refine zN ?_ | refine zF0 ?_ | refine zX0 ?_ | refine z1 ?_ | refine z2 ?_ | refine z3 ?_ | refine z4 ?_ | refine z5 ?_ | refine z6 ?_ | refine z7 ?_ | refine z8 ?_ | refine y1 ?_ | refine y2 ?_ | refine y3 ?_ | refine y4 ?_ | refine y5 ?_ | refine y6 ?_ | refine y7 ?_ | refine y8 ?_ | refine Rt.p (fun _ => ?_) fun _ => ?_)
      | ((with_reducible apply w_ixM); (focus exact rfl); (focus exact rfl); case' hk => intro y hy) | ((with_reducible (first | apply w_val | apply q_ends)); (focus exact rfl)))
    · rename_i h
      rw [if_neg h] at hb
      rw [hb]; rfl
    · rename_i h
      rw [if_pos (Decidable.not_not.1 h)] at hb
      refine zQ (pre ++ [r], post) ?_ ?_
      · exact ⟨by rw [hl]; simp, hb⟩
      · simp
end Go.Abs
