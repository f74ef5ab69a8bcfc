/- A part of the proofs of the laws of this seat: contracts of the functions that they reach, each proved of the program's form in Lean. No condition beyond those that each contract names. -/
import Derived.Test.YtmekfgjlcaonjaaK3
import Derived.Test.YtmekfgjlcaonjaaK2
import Derived.Test.YtmekfgjlcaonjaaK1
import Derived.Test.YtmekfgjlcaonjaaD7
import Derived.Test.YtmekfgjlcaonjaaD5
import Derived.Test.YtmekfgjlcaonjaaD4
import Derived.Test.YtmekfgjlcaonjaaD3
import Derived.Test.YtmekfgjlcaonjaaC7
import Derived.Test.YtmekfgjlcaonjaaC6
import Derived.Test.YtmekfgjlcaonjaaC5
import Derived.Test.YtmekfgjlcaonjaaC4
import Derived.Test.YtmekfgjlcaonjaaC3
import Derived.Test.YtmekfgjlcaonjaaC2
import Derived.Test.YtmekfgjlcaonjaaC1
import Derived.Test.YtmekfgjlcaonjaaB
import Derived.Test.YtmekfgjlcaonjaaD1
import Derived.Test.YtmekfgjlcaonjaaC13
import Derived.Test.YtmekfgjlcaonjaaC12
import Derived.Test.YtmekfgjlcaonjaaC11
import Derived.Test.YtmekfgjlcaonjaaC10
import Derived.Test.YtmekfgjlcaonjaaC9
import Derived.Test.YtmekfgjlcaonjaaC8
import Derived.Test.YtmekfgjlcaonjaaD8
set_option linter.unusedVariables false
set_option linter.unusedSimpArgs false
set_option maxRecDepth 20000
set_option maxHeartbeats 1000000
namespace Go.Abs
open Go.Proofs
/-- aloeswood/aloeswoodref09.wider -/
def ir81 : IFn :=
  ⟨16, [(6, some (2, true))], (.seq (.ops [⟨(some 3), none, (.box 2 (.t 0))⟩,
    ⟨(some 6), none, (.new [(.int .i64 0), (.int .i64 0)])⟩])
  (.seq (.ops [⟨(some 7), none, (.flA 0 (.t 3))⟩,
    ⟨(some 8), none, (.ld 1 false (.t 7))⟩,
    ⟨(some 9), none, (.mov (.t 1))⟩,
    ⟨(some 10), none, (.mxi false (.t 8) (.t 9))⟩,
    ⟨(some 11), none, (.flA 1 (.t 3))⟩,
    ⟨(some 12), none, (.ld 1 false (.t 11))⟩,
    ⟨(some 13), none, (.mov (.t 2))⟩,
    ⟨(some 14), none, (.mxi true (.t 12) (.t 13))⟩,
    ⟨(some 15), none, (.bld [(.int .i64 0), (.int .i64 0)] [(0, 1, (.t 10)), (1, 1, (.t 14))])⟩,
    ⟨none, none, (.st 2 (.t 6) (.t 15))⟩])
  .ret))⟩
def hint81 (P : Program) : Hint := {}
/-- aloeswood/aloeswoodref09.Days -/
def ir25 : IFn :=
  ⟨106, [(2, some (2, true)), (3, none), (4, none)], (.seq (.ops [⟨(some 1), none, (.box 4 (.t 0))⟩,
    ⟨(some 2), none, (.new [(.int .i64 0), (.int .i64 0)])⟩,
    ⟨(some 3), none, (.mov (.k .nsl))⟩,
    ⟨(some 4), none, (.mov (.k (.int .i64 0)))⟩])
  (.seq (.seq (.ops [⟨(some 12), none, (.ld 4 true (.t 1))⟩,
    ⟨(some 13), none, (.callF 27 [(.t 12)])⟩,
    ⟨(some 5), none, (.mov (.t 13))⟩])
  (.seq (.ops [⟨(some 14), none, (.mov (.t 5))⟩,
    ⟨(some 15), none, (.bin .neq (.t 14) (.k (.int .i64 0)))⟩])
  (.cnd (.t 15)
    (.seq (.ops [⟨(some 16), none, (.bld [(.int .i64 0), (.int .i64 0)] [])⟩,
      ⟨(some 17), none, (.mov (.t 5))⟩,
      ⟨none, none, (.st 2 (.t 2) (.t 16))⟩,
      ⟨(some 3), none, (.mov (.k .nsl))⟩,
      ⟨(some 4), none, (.mov (.t 17))⟩])
    .ret)
    .skip)))
  (.seq (.ops [⟨(some 18), none, (.bld [(.int .i64 0), (.int .i64 0)] [(0, 1, (.k (.int .i64 100000))), (1, 1, (.k (.int .i64 0)))])⟩,
    ⟨(some 6), none, (.new [(.int .i64 0), (.int .i64 0)])⟩,
    ⟨none, none, (.st 2 (.t 6) (.t 18))⟩])
  (.seq (.ops [⟨(some 7), none, (.mov (.k .nsl))⟩])
  (.seq (.seq (.ops [⟨(some 8), none, (.mov (.k (.int .i64 0)))⟩])
  (.blk 0 (.loop (.seq (.seq (.ops [⟨(some 19), none, (.mov (.t 8))⟩,
        ⟨(some 20), none, (.flA 3 (.t 1))⟩,
        ⟨(some 21), none, (.ld 1 false (.t 20))⟩,
        ⟨(some 22), none, (.len false (.t 21))⟩,
        ⟨(some 23), none, (.bin .lss (.t 19) (.t 22))⟩])
      (.cnd (.t 23)
        .skip
        (.exit 0)))
      (.seq (.blk 1 (.ops [⟨(some 26), none, (.mov (.t 7))⟩,
          ⟨(some 27), none, (.ld 2 true (.t 6))⟩,
          ⟨(some 28), none, (.bsl 2 [[(.int .i64 0), (.int .i64 0)]] [(0, (.t 27))])⟩,
          ⟨(some 29), none, (.apm 2 16 (.t 26) (.t 28) 7)⟩,
          ⟨(some 7), none, (.mov (.t 29))⟩]))
      (.ops [⟨(some 24), none, (.mov (.t 8))⟩,
        ⟨(some 25), none, (.bin .add (.t 24) (.k (.int .i64 1)))⟩,
        ⟨(some 8), none, (.mov (.t 25))⟩]))))))
  (.seq (.ops [⟨(some 30), none, (.ld 4 true (.t 1))⟩,
    ⟨(some 31), none, (.callF 78 [(.t 30)])⟩,
    ⟨(some 9), none, (.mov (.t 31))⟩])
  (.seq (.seq (.ops [⟨(some 10), none, (.mov (.k (.int .i64 0)))⟩])
  (.blk 2 (.loop (.seq (.seq (.ops [⟨(some 32), none, (.mov (.t 10))⟩,
        ⟨(some 33), none, (.mov (.t 9))⟩,
        ⟨(some 34), none, (.len false (.t 33))⟩,
        ⟨(some 35), none, (.bin .lss (.t 32) (.t 34))⟩])
      (.cnd (.t 35)
        .skip
        (.exit 2)))
      (.seq (.blk 3 (.seq (.ops [⟨(some 38), none, (.ld 2 true (.t 6))⟩,
          ⟨(some 39), none, (.mov (.t 9))⟩,
          ⟨(some 40), none, (.mov (.t 10))⟩,
          ⟨(some 41), none, (.ixA 3 (.t 39) (.t 40))⟩,
          ⟨(some 42), none, (.flA 1 (.t 41))⟩,
          ⟨(some 43), none, (.ld 1 false (.t 42))⟩,
          ⟨(some 44), none, (.ixA 1 (.t 43) (.k (.int .i64 0)))⟩,
          ⟨(some 45), none, (.ld 1 false (.t 44))⟩,
          ⟨(some 46), none, (.mov (.t 9))⟩,
          ⟨(some 47), none, (.mov (.t 10))⟩,
          ⟨(some 48), none, (.ixA 3 (.t 46) (.t 47))⟩,
          ⟨(some 49), none, (.flA 2 (.t 48))⟩,
          ⟨(some 50), none, (.ld 1 false (.t 49))⟩,
          ⟨(some 51), none, (.ixA 1 (.t 50) (.k (.int .i64 0)))⟩,
          ⟨(some 52), none, (.ld 1 false (.t 51))⟩,
          ⟨(some 53), none, (.callF 81 [(.t 38), (.t 45), (.t 52)])⟩,
          ⟨none, none, (.st 2 (.t 6) (.t 53))⟩])
        (.seq (.ops [⟨(some 11), none, (.mov (.k (.int .i64 0)))⟩])
        (.blk 4 (.loop (.seq (.seq (.ops [⟨(some 54), none, (.mov (.t 11))⟩,
              ⟨(some 55), none, (.mov (.t 9))⟩,
              ⟨(some 56), none, (.mov (.t 10))⟩,
              ⟨(some 57), none, (.ixA 3 (.t 55) (.t 56))⟩,
              ⟨(some 58), none, (.flA 0 (.t 57))⟩,
              ⟨(some 59), none, (.ld 1 false (.t 58))⟩,
              ⟨(some 60), none, (.len false (.t 59))⟩,
              ⟨(some 61), none, (.bin .lss (.t 54) (.t 60))⟩])
            (.cnd (.t 61)
              .skip
              (.exit 4)))
            (.seq (.blk 5 (.ops [⟨(some 64), none, (.mov (.t 7))⟩,
                ⟨(some 65), none, (.mov (.t 9))⟩,
                ⟨(some 66), none, (.mov (.t 10))⟩,
                ⟨(some 67), none, (.ixA 3 (.t 65) (.t 66))⟩,
                ⟨(some 68), none, (.flA 0 (.t 67))⟩,
                ⟨(some 69), none, (.ld 1 false (.t 68))⟩,
                ⟨(some 70), none, (.mov (.t 11))⟩,
                ⟨(some 71), none, (.ixA 1 (.t 69) (.t 70))⟩,
                ⟨(some 72), none, (.ld 1 false (.t 71))⟩,
                ⟨(some 73), none, (.mov (.t 7))⟩,
                ⟨(some 74), none, (.mov (.t 9))⟩,
                ⟨(some 75), none, (.mov (.t 10))⟩,
                ⟨(some 76), none, (.ixA 3 (.t 74) (.t 75))⟩,
                ⟨(some 77), none, (.flA 0 (.t 76))⟩,
                ⟨(some 78), none, (.ld 1 false (.t 77))⟩,
                ⟨(some 79), none, (.mov (.t 11))⟩,
                ⟨(some 80), none, (.ixA 1 (.t 78) (.t 79))⟩,
                ⟨(some 81), none, (.ld 1 false (.t 80))⟩,
                ⟨(some 82), none, (.ixA 2 (.t 73) (.t 81))⟩,
                ⟨(some 83), none, (.ld 2 true (.t 82))⟩,
                ⟨(some 84), none, (.mov (.t 9))⟩,
                ⟨(some 85), none, (.mov (.t 10))⟩,
                ⟨(some 86), none, (.ixA 3 (.t 84) (.t 85))⟩,
                ⟨(some 87), none, (.flA 1 (.t 86))⟩,
                ⟨(some 88), none, (.ld 1 false (.t 87))⟩,
                ⟨(some 89), none, (.mov (.t 11))⟩,
                ⟨(some 90), none, (.bin .add (.t 89) (.k (.int .i64 1)))⟩,
                ⟨(some 91), none, (.ixA 1 (.t 88) (.t 90))⟩,
                ⟨(some 92), none, (.ld 1 false (.t 91))⟩,
                ⟨(some 93), none, (.mov (.t 9))⟩,
                ⟨(some 94), none, (.mov (.t 10))⟩,
                ⟨(some 95), none, (.ixA 3 (.t 93) (.t 94))⟩,
                ⟨(some 96), none, (.flA 2 (.t 95))⟩,
                ⟨(some 97), none, (.ld 1 false (.t 96))⟩,
                ⟨(some 98), none, (.mov (.t 11))⟩,
                ⟨(some 99), none, (.bin .add (.t 98) (.k (.int .i64 1)))⟩,
                ⟨(some 100), none, (.ixA 1 (.t 97) (.t 99))⟩,
                ⟨(some 101), none, (.ld 1 false (.t 100))⟩,
                ⟨(some 102), none, (.callF 81 [(.t 83), (.t 92), (.t 101)])⟩,
                ⟨none, none, (.chk 1 false (.t 68) 69)⟩,
                ⟨none, none, (.chk 1 false (.t 71) 72)⟩,
                ⟨(some 103), none, (.ixA 2 (.t 64) (.t 72))⟩,
                ⟨none, none, (.st 2 (.t 103) (.t 102))⟩]))
            (.ops [⟨(some 62), none, (.mov (.t 11))⟩,
              ⟨(some 63), none, (.bin .add (.t 62) (.k (.int .i64 1)))⟩,
              ⟨(some 11), none, (.mov (.t 63))⟩]))))))))
      (.ops [⟨(some 36), none, (.mov (.t 10))⟩,
        ⟨(some 37), none, (.bin .add (.t 36) (.k (.int .i64 1)))⟩,
        ⟨(some 10), none, (.mov (.t 37))⟩]))))))
  (.seq (.seq (.frz (.t 7))
  (.ops [⟨(some 104), none, (.ld 2 true (.t 6))⟩,
    ⟨(some 105), none, (.mov (.t 7))⟩,
    ⟨none, none, (.st 2 (.t 2) (.t 104))⟩,
    ⟨(some 3), none, (.mov (.t 105))⟩,
    ⟨(some 4), none, (.mov (.k (.int .i64 0)))⟩]))
  .ret))))))))⟩
def hint25 (P : Program) : Hint := { site := [(29, 7)], nils := [], frz := [(105, 7)], mve := [], wr := [29] }
theorem rOrders_s (c : Chn) (hl : c.ls.length < 1000) : Fn0 Try.prog 23 [cA c] (fun v => v = .tup [if chainE c = 0 then .slc 1 (llR (ordsF c)) .non else .nsl, .int .i64 (chainE c)]) := by
  have hck := rcheck_s c hl
  by_cases he : chainE c = 0
  case neg =>
    rw [if_neg he]
    generalize chainE c = E at *
    refine RawC.walk (H := hint23 Try.prog) ir23 Try.func23 rfl rfl rfl ?_
    unfold ir23
    repeat' (first
      | with_reducible (first | refine Rd.p ?_ | refine w_alt ?_ ?_ | refine zE ?_ | refine zE0 ?_)
      | with_reducible (first | refine zI fun y hy => ?_ | refine zL ?_ | refine zS ?_ | refine zA fun _ => ?_ | refine zV ?_ | refine zC ?_ | refine zG ?_ | refine zU ?_ | refine zG0 ?_ | refine zU0 ?_ | refine zF ?_)
      | ((with_reducible refine acall_id ?_); refine ACall.val hck rfl rfl ?_)
      | with_reducible (first | refine zX ?_ | refine zD fun _ => ?_ | refine zD0 ?_ | refine zN ?_ | refine zF0 ?_ | refine zX0 ?_ | refine z1 ?_ | refine z2 ?_ | refine z3 ?_ | refine z4 ?_ | refine z5 ?_ | refine z6 ?_ | refine z7 ?_ | refine z8 ?_ | refine y1 ?_ | refine y2 ?_ | refine y3 ?_ | refine y4 ?_ | refine y5 ?_ | refine y6 ?_ | refine y7 ?_ | refine y8 ?_ | refine Rt.p (fun _ => ?_) fun _ => ?_)
      | ((with_reducible apply w_ixM); (focus exact rfl); (focus exact rfl); case' hk => intro y hy) | ((with_reducible (first | apply w_val | apply q_ends)); (focus exact rfl)))
    rfl
  rw [if_pos he]
  have ok := formE_0 (chainE_0 he).1
  have hS := Stories_s c ok
  have hO : ordsF c = (talesF c).map (·.1) := by rw [ordsF, if_pos he]
  have hTl : ((talesF c).map (·.1)).length ≤ 10 ^ 9 := by
    rw [← SLr_tales]
    have h1 := SLr_len c ok.n c.ls.length [] c.maker ok.n
    have : 10 ^ c.ls.length ≤ 10 ^ 7 := Nat.pow_le_pow_right (by omega) ok.n
    omega
  have hTm : ∀ o ∈ (talesF c).map (·.1), o.length = c.ls.length := fun o ho => (ordsF_mem (c := c) (by rw [hO]; exact ho)).1
  have hn7 := ok.n
  rw [hO, he]
  rw [he] at hck
  generalize (talesF c).map (·.1) = T at *
  refine RawC.walk (H := hint23 Try.prog) ir23 Try.func23 rfl rfl rfl ?_
  unfold ir23
  repeat' (first
    | with_reducible (first | refine Rd.p ?_ | refine w_alt ?_ ?_ | refine zE ?_ | refine zE0 ?_)
    | with_reducible (first | refine zI fun y hy => ?_ | refine zL ?_ | refine zS ?_ | refine zA fun _ => ?_ | refine zV ?_ | refine zC ?_ | refine zG ?_ | refine zU ?_ | refine zG0 ?_ | refine zU0 ?_ | refine zF ?_)
    | ((with_reducible refine acall_id ?_); refine ACall.val hck rfl rfl ?_)
    | ((with_reducible refine acall_id ?_); refine ACall.val hS rfl rfl ?_)
    | with_reducible (first | refine zX ?_ | refine zD fun _ => ?_ | refine zD0 ?_ | refine zN ?_ | refine zF0 ?_ | refine zX0 ?_ | refine z1 ?_ | refine z2 ?_ | refine z3 ?_ | refine z4 ?_ | refine z5 ?_ | refine z6 ?_ | refine z7 ?_ | refine z8 ?_ | refine y1 ?_ | refine y2 ?_ | refine y3 ?_ | refine y4 ?_ | refine y5 ?_ | refine y6 ?_ | refine y7 ?_ | refine y8 ?_ | refine Rt.p (fun _ => ?_) fun _ => ?_)
    | ((with_reducible apply w_ixM); (focus exact rfl); (focus exact rfl); case' hk => intro y hy) | ((with_reducible (first | apply w_val | apply q_ends)); (focus exact rfl)))
  rename_i g5
  refine w_loopK [6] [] (fun x : List (List Int) × List (List Int) × Nat => T = x.1 ++ x.2.1) (fun x => x.2.1.length) (fun x => [(7, .int .i64 x.1.length), (5, .slc 1 (llR x.1) (.own 5 x.2.2))]) (fun x => [(5, (x.2.2, .row []))]) ([], T, g5) rfl ⟨rfl, rfl, trivial⟩ (by exact ⟨rfl, trivial⟩) ?_
  rintro ⟨pre, post, g5⟩ hpp e σ
  dsimp only at hpp ⊢
  have hlen := congrArg List.length hpp
  rw [List.length_append] at hlen
  cases post with
  | nil =>
    rw [List.append_nil] at hpp
    simp only [List.length_nil] at hlen
    repeat' (first
      | with_reducible (first | refine Rd.p ?_ | refine w_alt ?_ ?_ | refine zE ?_ | refine zE0 ?_)
      | with_reducible (first | refine zI fun y hy => ?_ | refine zL ?_ | refine zS ?_ | refine zA fun _ => ?_ | refine zV ?_ | refine zC ?_ | refine zG ?_ | refine zU ?_ | refine zG0 ?_ | refine zU0 ?_ | refine zF ?_)
      | with_reducible (first | refine zX ?_ | refine zD fun _ => ?_ | refine zD0 ?_ | refine zN ?_ | refine zF0 ?_ | refine zX0 ?_ | refine z1 ?_ | refine z2 ?_ | refine z3 ?_ | refine z4 ?_ | refine z5 ?_ | refine z6 ?_ | refine z7 ?_ | refine z8 ?_ | refine y1 ?_ | refine y2 ?_ | refine y3 ?_ | refine y4 ?_ | refine y5 ?_ | refine y6 ?_ | refine y7 ?_ | refine y8 ?_ | refine Rt.p (fun _ => ?_) fun _ => ?_)
      | ((with_reducible apply w_ixM); (focus exact rfl); (focus exact rfl); case' hk => intro y hy) | ((with_reducible (first | apply w_val | apply q_ends)); (focus exact rfl)))
    all_goals first
      | (exfalso; omega)
      | (rw [hpp]; rfl)
  | cons o post =>
    simp only [List.length_cons] at hlen
    have ho := hTm o (by rw [hpp]; simp)
    have hgo : T[pre.length]? = some o := by rw [hpp]; simp
    cases o with
    | nil =>
      repeat' (first
        | with_reducible (first | refine Rd.p ?_ | refine w_alt ?_ ?_ | refine zE ?_ | refine zE0 ?_)
        | (refine w_ixE (f := stR c) hgo rfl rfl ?_)
        | with_reducible (first | refine zI fun y hy => ?_ | refine zL ?_ | refine zS ?_ | refine zA fun _ => ?_ | refine zV ?_ | refine zC ?_ | refine zG ?_ | refine zU ?_ | refine zG0 ?_ | refine zU0 ?_ | refine zF ?_)
        | with_reducible (first | refine zX ?_ | refine zD fun _ => ?_ | refine zD0 ?_ | refine zN ?_ | refine zF0 ?_ | refine zX0 ?_ | refine z1 ?_ | refine z2 ?_ | refine z3 ?_ | refine z4 ?_ | refine z5 ?_ | refine z6 ?_ | refine z7 ?_ | refine z8 ?_ | refine y1 ?_ | refine y2 ?_ | refine y3 ?_ | refine y4 ?_ | refine y5 ?_ | refine y6 ?_ | refine y7 ?_ | refine y8 ?_ | refine Rt.p (fun _ => ?_) fun _ => ?_)
        | ((with_reducible apply w_ixM); (focus exact rfl); (focus exact rfl); case' hk => intro y hy) | ((with_reducible (first | apply w_val | apply q_ends)); (focus exact rfl)))
      all_goals first
        | (exfalso; omega)
        | (refine q_loop (pre ++ [[]], post, _) (by show T = _; rw [hpp]; simp) (by simp) (slots_cons (by show AV.int .i64 _ = AV.int .i64 _; refine int_eq ?_; simp) (slots_cons (by show _ = AV.slc 1 (llR (pre ++ [[]])) _; first | rfl | simp) slots_nil)) (by exact ⟨rfl, trivial⟩) (by repeat' (first | exact kept_nil | apply kept_cons | rfl)) (by repeat' (first | exact kept_nil | apply kept_cons | rfl)))
    | cons i o =>
      simp only [List.length_cons] at ho
      repeat' (first
        | with_reducible (first | refine Rd.p ?_ | refine w_alt ?_ ?_ | refine zE ?_ | refine zE0 ?_)
        | (refine w_ixE (f := stR c) hgo rfl rfl ?_)
        | with_reducible (first | refine zI fun y hy => ?_ | refine zL ?_ | refine zS ?_ | refine zA fun _ => ?_ | refine zV ?_ | refine zC ?_ | refine zG ?_ | refine zU ?_ | refine zG0 ?_ | refine zU0 ?_ | refine zF ?_)
        | with_reducible (first | refine zX ?_ | refine zD fun _ => ?_ | refine zD0 ?_ | refine zN ?_ | refine zF0 ?_ | refine zX0 ?_ | refine z1 ?_ | refine z2 ?_ | refine z3 ?_ | refine z4 ?_ | refine z5 ?_ | refine z6 ?_ | refine z7 ?_ | refine z8 ?_ | refine y1 ?_ | refine y2 ?_ | refine y3 ?_ | refine y4 ?_ | refine y5 ?_ | refine y6 ?_ | refine y7 ?_ | refine y8 ?_ | refine Rt.p (fun _ => ?_) fun _ => ?_)
        | ((with_reducible apply w_ixM); (focus exact rfl); (focus exact rfl); case' hk => intro y hy) | ((with_reducible (first | apply w_val | apply q_ends)); (focus exact rfl)))
      all_goals first
        | (exfalso; omega)
        | (refine q_loop (pre ++ [i :: o], post, _) (by show T = _; rw [hpp]; simp) (by simp) (slots_cons (by show AV.int .i64 _ = AV.int .i64 _; refine int_eq ?_; simp) (slots_cons (by show _ = AV.slc 1 (llR (pre ++ [i :: o])) _; first | rfl | simp) slots_nil)) (by exact ⟨rfl, trivial⟩) (by repeat' (first | exact kept_nil | apply kept_cons | rfl)) (by repeat' (first | exact kept_nil | apply kept_cons | rfl)))
theorem wider_s (a b l h : Int) : Fn0 Try.prog 81 [.agg [.int .i64 a, .int .i64 b], .int .i64 l, .int .i64 h] (fun v => v = .agg [.int .i64 (min a l), .int .i64 (max b h)]) := by
  refine RawC.walk (H := hint81 Try.prog) ir81 Try.func81 rfl rfl rfl ?_
  unfold ir81
  repeat' (first
    | with_reducible (first | refine Rd.p ?_ | refine w_alt ?_ ?_ | refine zE ?_ | refine zE0 ?_)
    | with_reducible (first | refine zI fun y hy => ?_ | refine zL ?_ | refine zS ?_ | refine zA fun _ => ?_ | refine zV ?_ | refine zC ?_ | refine zG ?_ | refine zU ?_ | refine zG0 ?_ | refine zU0 ?_ | refine zF ?_)
    | with_reducible (first | refine zX ?_ | refine zD fun _ => ?_ | refine zD0 ?_ | refine zN ?_ | refine zF0 ?_ | refine zX0 ?_ | refine z1 ?_ | refine z2 ?_ | refine z3 ?_ | refine z4 ?_ | refine z5 ?_ | refine z6 ?_ | refine z7 ?_ | refine z8 ?_ | refine y1 ?_ | refine y2 ?_ | refine y3 ?_ | refine y4 ?_ | refine y5 ?_ | refine y6 ?_ | refine y7 ?_ | refine y8 ?_ | refine Rt.p (fun _ => ?_) fun _ => ?_)
    | ((with_reducible apply w_ixM); (focus exact rfl); (focus exact rfl); case' hk => intro y hy) | ((with_reducible (first | apply w_val | apply q_ends)); (focus exact rfl)))
  rfl
section
variable {P : Program} {K : (Nat → AV) → Sig → Prop} {e : Nat → AV} {σ : Sig}
theorem w_ld2K {x : IOpd} {d : Nat} {r : List IStep} {i g off : Nat} {xs : List Int} (hx : x.ev e = .ref i g off) (hσ : σ i = (g, .row (xs.map (AV.int .i64)))) (ho : off + 1 < xs.length)
    (hk : stepsW P r K (upd e d (.agg [.int .i64 (xs.getD off 0), .int .i64 (xs.getD (off + 1) 0)])) σ) : stepsW P (⟨some d, none, .ld 2 true x⟩ :: r) K e σ := by
  have hdt : ((xs.map (AV.int .i64)).drop off).take 2 = [.int .i64 (xs.getD off 0), .int .i64 (xs.getD (off + 1) 0)] := by
    rw [List.drop_eq_getElem_cons (by simp; omega), List.drop_eq_getElem_cons (by simp; omega)]
    simp [List.getD_eq_getElem?_getD, List.getElem?_eq_getElem ho, List.getElem?_eq_getElem (show off < xs.length by omega)]
  refine w_val (p := g = g ∧ off + 2 ≤ (xs.map (AV.int .i64)).length) (v := .agg [.int .i64 (xs.getD off 0), .int .i64 (xs.getD (off + 1) 0)]) ?_ ⟨rfl, by simp; omega⟩ hk
  show ldO 2 true σ (x.ev e) = _
  rw [hx]
  simp only [ldO, hσ, partO, hdt]
theorem w_apm2M {x y : IOpd} {r : List IStep} {d i g n : Nat} {xs : List Int} {a b : Int} {t : Tag} (hn : xs.length = n * 2) (hx : x.ev e = .msl i g n 2) (hσ : σ i = (g, .row (xs.map (AV.int .i64)))) (hy : y.ev e = .slc 2 [[.int .i64 a, .int .i64 b]] t) (hb : n ≤ 1000000)
    (hk : ∀ g', stepsW P r K (upd e d (.msl i g' (n + 1) 2)) (upd (upd σ i (g, .dead)) i (g', .row ((xs ++ [a, b]).map (AV.int .i64))))) : stepsW P (⟨some d, none, .apm 2 16 x y i⟩ :: r) K e σ := by
  have e1 : (xs ++ [a, b]).map (AV.int .i64) = xs.map (AV.int .i64) ++ [[AV.int .i64 a, .int .i64 b]].flatten := by simp
  refine w_det (p := (g = g ∧ 2 = 2 ∧ (xs.map (AV.int .i64)).length = n * 2) ∧ 2 = 2 ∧ (n + [[AV.int .i64 a, .int .i64 b]].length) * 16 ≤ 140737488355328) (v := fun g' => .msl i g' (n + 1) 2) (σ' := fun g' => upd (upd σ i (g, .dead)) i (g', .row ((xs ++ [a, b]).map (AV.int .i64)))) (fun g' => ?_) ⟨⟨rfl, rfl, by simpa using hn⟩, rfl, by simp; omega⟩ hk
  show (match baseM 2 σ (x.ev e), rowsO 2 (y.ev e) with
    | some (p, n, c, σ'), some (q, ys) => (match ys with
      | [] => some (p ∧ q, x.ev e, σ)
      | _ :: _ => some (p ∧ q ∧ (n + ys.length) * 16 ≤ 140737488355328, AV.msl i g' (n + ys.length) 2, newS σ' i g' (c ++ ys.flatten)))
    | _, _ => none) = _
  rw [hx, hy, e1]
  simp only [baseM, hσ, rowsO]; rfl
theorem w_apm2N {x y : IOpd} {r : List IStep} {d i : Nat} {a b : Int} {t : Tag} (hx : x.ev e = .nsl) (hy : y.ev e = .slc 2 [[.int .i64 a, .int .i64 b]] t)
    (hk : ∀ g', stepsW P r K (upd e d (.msl i g' 1 2)) (newS σ i g' ([a, b].map (AV.int .i64)))) : stepsW P (⟨some d, none, .apm 2 16 x y i⟩ :: r) K e σ := by
  refine w_det (p := True ∧ 2 = 2 ∧ (0 + [[AV.int .i64 a, .int .i64 b]].length) * 16 ≤ 140737488355328) (v := fun g' => .msl i g' 1 2) (σ' := fun g' => newS σ i g' ([a, b].map (AV.int .i64))) (fun g' => ?_) ⟨trivial, rfl, by show (0 + 1) * 16 ≤ 140737488355328; omega⟩ hk
  show (match baseM 2 σ (x.ev e), rowsO 2 (y.ev e) with
    | some (p, n, c, σ'), some (q, ys) => (match ys with
      | [] => some (p ∧ q, x.ev e, σ)
      | _ :: _ => some (p ∧ q ∧ (n + ys.length) * 16 ≤ 140737488355328, AV.msl i g' (n + ys.length) 2, newS σ' i g' (c ++ ys.flatten)))
    | _, _ => none) = _
  rw [hx, hy]
  simp only [baseM, rowsO]; rfl
end
/-- Rows of spans that grow. -/
def rwZ (n : Nat) : List Int := (List.replicate n [100000, 0]).flatten
theorem rwZ_len (n : Nat) : (rwZ n).length = n * 2 := by
  induction n with
  | zero => rfl
  | succ n ih => unfold rwZ at *; rw [List.replicate_succ, List.flatten_cons, List.length_append, ih]; simp; omega
theorem rwZ_succ (n : Nat) : rwZ (n + 1) = rwZ n ++ [100000, 0] := by
  unfold rwZ; rw [List.replicate_succ', List.flatten_append]; simp
theorem rwZ_get (n k : Nat) (h : k < n) : (rwZ n).getD (k * 2) 0 = 100000 ∧ (rwZ n).getD (k * 2 + 1) 0 = 0 := by
  induction n with
  | zero => omega
  | succ n ih =>
    rw [rwZ_succ]
    have hl := rwZ_len n
    by_cases hk : k < n
    · have := ih hk
      simp only [List.getD_eq_getElem?_getD] at this ⊢
      rw [List.getElem?_append_left (by omega), List.getElem?_append_left (by omega)]
      exact this
    · obtain rfl : k = n := by omega
      simp only [List.getD_eq_getElem?_getD]
      rw [List.getElem?_append_right (by omega), List.getElem?_append_right (by omega), hl, show k * 2 - k * 2 = 0 by omega, show k * 2 + 1 - k * 2 = 1 by omega]
      exact ⟨rfl, rfl⟩
def lvZ (g : Nat) : Nat → AV
  | 0 => .nsl
  | k + 1 => .msl 7 g (k + 1) 2
def lxZ (g : Nat) (xs : List Int) : Nat → Nat × Res
  | 0 => (0, .dead)
  | _ + 1 => (g, .row (xs.map (AV.int .i64)))
theorem mx_zero {f : List Int × List Int → Int} {X : List (List Int × List Int)} (h : ∃ x ∈ X, 0 ≤ f x) : mxL f 0 X = mxL f (-1) X := by
  obtain ⟨x, hx, h0⟩ := h
  have a := mxL_ge (f := f) (X := X) (z := 0)
  have b := mxL_ge (f := f) (X := X) (z := -1)
  have h1 := b.2 x hx
  rcases mxL_at (f := f) (X := X) (z := 0) with h | ⟨y, hy, h⟩
  · rcases mxL_at (f := f) (X := X) (z := -1) with h2 | ⟨y, hy, h2⟩
    · omega
    · have := a.2 y hy; omega
  · have h3 := b.2 y hy
    rcases mxL_at (f := f) (X := X) (z := -1) with h2 | ⟨z, hz, h2⟩
    · omega
    · have := a.2 z hz; omega
/-- The document's days are the program's. -/
theorem rdays_eq {c : Chn} (he : chainE c = 0) : (talesF c).foldl (daysT c) ([100000, 0], rwZ c.ls.length) = ([madeLo c, madeHi c], ((talesF c).foldl (daysT c) ([100000, 0], rwZ c.ls.length)).2) ∧
    pairs c.ls.length ((talesF c).foldl (daysT c) ([100000, 0], rwZ c.ls.length)).2 = (List.range c.ls.length).map (fun k => (linkLo c k, linkHi c k)) ∧ ((talesF c).foldl (daysT c) ([100000, 0], rwZ c.ls.length)).2.length = c.ls.length * 2 := by
  have ok := formE_0 (chainE_0 he).1
  have hne := (chainE_0 he).2
  obtain ⟨x0, hx0⟩ : ∃ x, x ∈ talesF c := List.exists_mem_of_ne_nil _ hne
  have hD := daysX (c := c) (talesF c) 100000 0 (rwZ c.ls.length) (fun x hx => tale_perm hx) (rwZ_len _)
  have hlat : ∀ i, 0 ≤ getI (latF c x0.1) i := fun i => by
    have ht := tale_iff.1 hx0
    have hfit : fitB c.ls c.lo x0.1 = true := by have := ht.2.1; unfold okO at this; simp only [Bool.and_eq_true] at this; exact this.2
    have hle := (le_lat (okc_days ok) hfit).get i.toNat
    have hleb := leB_bdK c.ls (fun i => by
      unfold lkAt
      cases h : c.ls[i.toNat]? with
      | none => simp
      | some l => have := ok.h l (List.mem_of_getElem? h); exact ⟨this.1, this.2.1⟩) x0.1 c.lo (by have := ok.m; omega) i.toNat
    unfold getI at hle ⊢
    rw [Int.toNat_natCast] at hle
    rw [List.getD_eq_getElem?_getD] at hleb
    exact Int.le_trans hleb.1 hle
  refine ⟨?_, ?_, hD.2.1⟩
  · refine Prod.ext ?_ rfl
    rw [hD.1, mx_zero ⟨x0, hx0, hlat 0⟩]; rfl
  · rw [pairs_eq _ _ hD.2.1]
    refine List.map_congr_left fun k hk => ?_
    have hk : k < c.ls.length := List.mem_range.1 hk
    have h1 := hD.2.2 k hk
    have h2 := rwZ_get c.ls.length k hk
    rw [h1.1, h1.2, h2.1, h2.2, mx_zero ⟨x0, hx0, hlat _⟩]; rfl
theorem w_frzNK {P : Program} {Q : Post} {e : Nat → AV} {σ : Sig} {t : Nat} (h : e t = .nsl) (hk : Q .nor e σ) : awp P (.frz (.t t)) Q e σ := by
  show frzW (e t) e σ (Q .nor)
  rw [h]; exact hk
theorem Sub.tupK {l m : List AV} (h : SubL l m) : Sub (.tup l) (.tup m) := fun G v ⟨vs, h1, h2⟩ => ⟨vs, h1, SubL.rel h h2⟩
theorem getI_some {l : List Int} {k : Nat} (h : k < l.length) : l[k]? = some (getI l k) := by
  unfold getI; rw [Int.toNat_natCast, List.getElem?_eq_getElem h]; rfl
theorem rDays_s (c : Chn) (hl : c.ls.length < 1000) : Fn0 Try.prog 25 [cA c] (fun v => v = if chainE c = 0 then .tup [.agg [.int .i64 (madeLo c), .int .i64 (madeHi c)], .slc 2 (sR ((List.range c.ls.length).map fun k => (linkLo c k, linkHi c k))) .non, .int .i64 0] else .tup [.agg [.int .i64 0, .int .i64 0], .nsl, .int .i64 (chainE c)]) := by
  have hck := rcheck_s c hl
  by_cases he : chainE c = 0
  case neg =>
    rw [if_neg he]
    generalize chainE c = E at *
    refine RawC.walk (H := hint25 Try.prog) ir25 Try.func25 rfl rfl rfl ?_
    unfold ir25
    repeat' (first
      | with_reducible (first | refine Rd.p ?_ | refine w_alt ?_ ?_ | refine zE ?_ | refine zE0 ?_)
      | with_reducible (first | refine zI fun y hy => ?_ | refine zL ?_ | refine zS ?_ | refine zA fun _ => ?_ | refine zV ?_ | refine zC ?_ | refine zG ?_ | refine zU ?_ | refine zG0 ?_ | refine zU0 ?_ | refine zF ?_)
      | ((with_reducible refine acall_id ?_); refine ACall.val hck rfl rfl ?_)
      | with_reducible (first | refine zX ?_ | refine zD fun _ => ?_ | refine zD0 ?_ | refine zN ?_ | refine zF0 ?_ | refine zX0 ?_ | refine z1 ?_ | refine z2 ?_ | refine z3 ?_ | refine z4 ?_ | refine z5 ?_ | refine z6 ?_ | refine z7 ?_ | refine z8 ?_ | refine y1 ?_ | refine y2 ?_ | refine y3 ?_ | refine y4 ?_ | refine y5 ?_ | refine y6 ?_ | refine y7 ?_ | refine y8 ?_ | refine Rt.p (fun _ => ?_) fun _ => ?_)
      | ((with_reducible apply w_ixM); (focus exact rfl); (focus exact rfl); case' hk => intro y hy) | ((with_reducible (first | apply w_val | apply q_ends)); (focus exact rfl)))
    rfl
  rw [if_pos he]
  have ok := formE_0 (chainE_0 he).1
  have hS := Stories_s c ok
  have hn7 := ok.n
  obtain ⟨hd1, hd2, hd3⟩ := rdays_eq he
  rw [he] at hck
  obtain ⟨N, hN⟩ : ∃ N, N = c.ls.length := ⟨_, rfl⟩
  obtain ⟨T, hT⟩ : ∃ T, T = (talesF c).map (·.1) := ⟨_, rfl⟩
  have hTl : T.length ≤ 10 ^ 9 := by
    rw [hT, ← SLr_tales]
    have h1 := SLr_len c ok.n c.ls.length [] c.maker ok.n
    have : 10 ^ c.ls.length ≤ 10 ^ 7 := Nat.pow_le_pow_right (by omega) ok.n
    omega
  have hTX : (talesF c) = T.map fun o => (o, leO c o) := by
    rw [hT, List.map_map]
    symm
    rw [show (talesF c) = (talesF c).map id by simp] 
    simp only [List.map_map]
    refine List.map_congr_left fun x hx => ?_
    have := (tale_iff.1 hx).2.2
    exact Prod.ext rfl this.symm
  have hTp : ∀ o ∈ T, isPerm c.ls.length o := fun o ho => by
    rw [hT] at ho
    obtain ⟨x, hx, rfl⟩ := List.mem_map.1 ho
    exact tale_perm hx
  rw [← hT] at hS
  obtain ⟨R, hR⟩ : ∃ R, R = (talesF c).foldl (daysT c) ([100000, 0], rwZ c.ls.length) := ⟨_, rfl⟩
  rw [← hR] at hd1 hd2 hd3
  rw [hTX] at hR
  rw [← hd2]
  have hRf : R.1 = [madeLo c, madeHi c] := by rw [hd1]
  generalize madeLo c = mLo at *
  generalize madeHi c = mHi at *
  clear hd1 hT hTX hd2
  have hNl : c.ls.length = N := hN.symm
  clear hN
  rw [hNl] at hn7 hd3 hR hTp ⊢
  have hstep : ∀ (post : List (List Int)) (o : List Int) (a b : Int) (xs : List Int), ((o :: post).map fun o => (o, leO c o)).foldl (daysT c) ([a, b], xs) = (post.map fun o => (o, leO c o)).foldl (daysT c) ([min a (getI (leO c o) 0), max b (getI (latF c o) 0)], linkW c (o, leO c o) 0 o xs) := fun _ _ _ _ _ => rfl
  have hleL : ∀ o, (leO c o).length = o.length + 1 := fun o => by rw [leO, List.length_cons, leB_len]
  have hlaL : ∀ o, (latF c o).length = o.length + 1 := fun o => by rw [latF_B, latB_len]; simp
  cases N with
  | zero =>
    refine RawC.sub (show Fn0 Try.prog 25 [cA c] (fun v => v = .tup [.agg [.int .i64 mLo, .int .i64 mHi], .nsl, .int .i64 0]) from ?_) fun a _ h => ⟨_, by rw [h]; exact Sub.tupK (.cons (Sub.refl _) (.cons Sub.nil (.cons (Sub.refl _) .nil))), rfl⟩
    refine RawC.walk (H := hint25 Try.prog) ir25 Try.func25 rfl rfl rfl ?_
    unfold ir25
    repeat' (first
      | with_reducible (first | refine Rd.p ?_ | refine w_alt ?_ ?_ | refine zE ?_ | refine zE0 ?_)
      | with_reducible (first | refine zI fun y hy => ?_ | refine zL ?_ | refine zS ?_ | refine zA fun _ => ?_ | refine zV ?_ | refine zC ?_ | refine zG ?_ | refine zU ?_ | refine zG0 ?_ | refine zU0 ?_ | refine zF ?_)
      | ((with_reducible refine acall_id ?_); refine ACall.val hck rfl rfl ?_)
      | with_reducible (first | refine zX ?_ | refine zD fun _ => ?_ | refine zD0 ?_ | refine zN ?_ | refine zF0 ?_ | refine zX0 ?_ | refine z1 ?_ | refine z2 ?_ | refine z3 ?_ | refine z4 ?_ | refine z5 ?_ | refine z6 ?_ | refine z7 ?_ | refine z8 ?_ | refine y1 ?_ | refine y2 ?_ | refine y3 ?_ | refine y4 ?_ | refine y5 ?_ | refine y6 ?_ | refine y7 ?_ | refine y8 ?_ | refine Rt.p (fun _ => ?_) fun _ => ?_)
      | ((with_reducible apply w_ixM); (focus exact rfl); (focus exact rfl); case' hk => intro y hy) | ((with_reducible (first | apply w_val | apply q_ends)); (focus exact rfl)))
    rename_i g1 g2 g6
    refine w_loopK [1, 2, 6, 7] [1, 2, 6] (fun _ : Unit => True) (fun _ => 1) (fun _ => [(8, .int .i64 0)]) (fun _ => []) () trivial ⟨rfl, trivial⟩ trivial ?_
    rintro _ _ e σ
    repeat' (first
      | with_reducible (first | refine Rd.p ?_ | refine w_alt ?_ ?_ | refine zE ?_ | refine zE0 ?_)
      | with_reducible (first | refine zI fun y hy => ?_ | refine zL ?_ | refine zS ?_ | refine zA fun _ => ?_ | refine zV ?_ | refine zC ?_ | refine zG ?_ | refine zU ?_ | refine zG0 ?_ | refine zU0 ?_ | refine zF ?_)
      | ((with_reducible refine acall_id ?_); refine ACall.val hS rfl rfl ?_)
      | with_reducible (first | refine zX ?_ | refine zD fun _ => ?_ | refine zD0 ?_ | refine zN ?_ | refine zF0 ?_ | refine zX0 ?_ | refine z1 ?_ | refine z2 ?_ | refine z3 ?_ | refine z4 ?_ | refine z5 ?_ | refine z6 ?_ | refine z7 ?_ | refine z8 ?_ | refine y1 ?_ | refine y2 ?_ | refine y3 ?_ | refine y4 ?_ | refine y5 ?_ | refine y6 ?_ | refine y7 ?_ | refine y8 ?_ | refine Rt.p (fun _ => ?_) fun _ => ?_)
      | ((with_reducible apply w_ixM); (focus exact rfl); (focus exact rfl); case' hk => intro y hy) | ((with_reducible (first | apply w_val | apply q_ends)); (focus exact rfl)))
    all_goals try (exfalso; omega)
    refine w_loopK [2, 6, 7, 9] [2] (fun x : List (List Int) × List (List Int) × Int × Int => T = x.1 ++ x.2.1 ∧ R = (x.2.1.map fun o => (o, leO c o)).foldl (daysT c) ([x.2.2.1, x.2.2.2], [])) (fun x => x.2.1.length) (fun x => [(10, .int .i64 x.1.length)]) (fun x => [(6, (g6, .row [.int .i64 x.2.2.1, .int .i64 x.2.2.2]))]) ([], T, 100000, 0) ⟨rfl, hR⟩ ⟨rfl, trivial⟩ (by exact ⟨rfl, trivial⟩) ?_
    rintro ⟨pre, post, a, b⟩ ⟨hpp, hRR⟩ e σ
    dsimp only at hpp hRR ⊢
    have hlen := congrArg List.length hpp
    rw [List.length_append] at hlen
    cases post with
    | nil =>
      simp only [List.length_nil] at hlen
      rw [hRR] at hRf
      have hab : a = mLo ∧ b = mHi := by simpa using hRf
      repeat' (first
        | with_reducible (first | refine Rd.p ?_ | refine w_alt ?_ ?_ | refine zE ?_ | refine zE0 ?_)
        | with_reducible (first | refine zI fun y hy => ?_ | refine zL ?_ | refine zS ?_ | refine zA fun _ => ?_ | refine zV ?_ | refine zC ?_ | refine zG ?_ | refine zU ?_ | refine zG0 ?_ | refine zU0 ?_ | refine zF ?_)
        | (refine w_frzNK rfl ?_)
        | with_reducible (first | refine zX ?_ | refine zD fun _ => ?_ | refine zD0 ?_ | refine zN ?_ | refine zF0 ?_ | refine zX0 ?_ | refine z1 ?_ | refine z2 ?_ | refine z3 ?_ | refine z4 ?_ | refine z5 ?_ | refine z6 ?_ | refine z7 ?_ | refine z8 ?_ | refine y1 ?_ | refine y2 ?_ | refine y3 ?_ | refine y4 ?_ | refine y5 ?_ | refine y6 ?_ | refine y7 ?_ | refine y8 ?_ | refine Rt.p (fun _ => ?_) fun _ => ?_)
        | ((with_reducible apply w_ixM); (focus exact rfl); (focus exact rfl); case' hk => intro y hy) | ((with_reducible (first | apply w_val | apply q_ends)); (focus exact rfl)))
      all_goals first
        | (exfalso; omega)
        | (rw [hab.1, hab.2]; rfl)
    | cons o post =>
      simp only [List.length_cons] at hlen
      have ho : o = [] := List.length_eq_zero_iff.1 (hTp o (by rw [hpp]; simp)).len
      subst ho
      have hgo : T[pre.length]? = some [] := by rw [hpp]; simp
      rw [hstep] at hRR
      have hle0 : (leO c [])[0]? = some (getI (leO c []) 0) := getI_some (k := 0) (by rw [hleL]; omega)
      have hla0 : (latF c [])[0]? = some (getI (latF c []) 0) := getI_some (k := 0) (by rw [hlaL]; omega)
      have hle1 : ((iR (leO c []))[0]?) = some [.int .i64 (getI (leO c []) 0)] := by rw [List.getElem?_map, hle0]; rfl
      repeat' (first
        | with_reducible (first | refine Rd.p ?_ | refine w_alt ?_ ?_ | refine zE ?_ | refine zE0 ?_)
        | (first | refine w_ixE (f := stR c) hgo rfl rfl ?_ | refine w_ixE hle0 rfl rfl ?_ | refine w_ixE hla0 rfl rfl ?_)
        | with_reducible (first | refine zI fun y hy => ?_ | refine zL ?_ | refine zS ?_ | refine zA fun _ => ?_ | refine zV ?_ | refine zC ?_ | refine zG ?_ | refine zU ?_ | refine zG0 ?_ | refine zU0 ?_ | refine zF ?_)
        | ((with_reducible refine acall_id ?_); refine ACall.val (wider_s _ _ _ _) rfl rfl ?_)
        | with_reducible (first | refine zX ?_ | refine zD fun _ => ?_ | refine zD0 ?_ | refine zN ?_ | refine zF0 ?_ | refine zX0 ?_ | refine z1 ?_ | refine z2 ?_ | refine z3 ?_ | refine z4 ?_ | refine z5 ?_ | refine z6 ?_ | refine z7 ?_ | refine z8 ?_ | refine y1 ?_ | refine y2 ?_ | refine y3 ?_ | refine y4 ?_ | refine y5 ?_ | refine y6 ?_ | refine y7 ?_ | refine y8 ?_ | refine Rt.p (fun _ => ?_) fun _ => ?_)
        | ((with_reducible apply w_ixM); (focus exact rfl); (focus exact rfl); case' hk => intro y hy) | ((with_reducible (first | apply w_val | apply q_ends)); (focus exact rfl)))
      all_goals try (exfalso; omega)
      refine w_loopK [2, 6, 7, 9, 10] [2, 6] (fun _ : Unit => True) (fun _ => 1) (fun _ => [(11, .int .i64 0)]) (fun _ => []) () trivial ⟨rfl, trivial⟩ trivial ?_
      rintro _ _ e σ
      have h00 : ([] : List Int).length = 0 := rfl
      repeat' (first
        | with_reducible (first | refine Rd.p ?_ | refine w_alt ?_ ?_ | refine zE ?_ | refine zE0 ?_)
        | (refine w_ixE (f := stR c) hgo rfl rfl ?_)
        | with_reducible (first | refine zI fun y hy => ?_ | refine zL ?_ | refine zS ?_ | refine zA fun _ => ?_ | refine zV ?_ | refine zC ?_ | refine zG ?_ | refine zU ?_ | refine zG0 ?_ | refine zU0 ?_ | refine zF ?_)
        | with_reducible (first | refine zX ?_ | refine zD fun _ => ?_ | refine zD0 ?_ | refine zN ?_ | refine zF0 ?_ | refine zX0 ?_ | refine z1 ?_ | refine z2 ?_ | refine z3 ?_ | refine z4 ?_ | refine z5 ?_ | refine z6 ?_ | refine z7 ?_ | refine z8 ?_ | refine y1 ?_ | refine y2 ?_ | refine y3 ?_ | refine y4 ?_ | refine y5 ?_ | refine y6 ?_ | refine y7 ?_ | refine y8 ?_ | refine Rt.p (fun _ => ?_) fun _ => ?_)
        | ((with_reducible apply w_ixM); (focus exact rfl); (focus exact rfl); case' hk => intro y hy) | ((with_reducible (first | apply w_val | apply q_ends)); (focus exact rfl)))
      all_goals first
        | (exfalso; omega)
        | (refine q_loop (pre ++ [[]], post, _, _) ⟨by show T = _; rw [hpp]; simp, hRR⟩ (by simp) (slots_cons (by show AV.int .i64 _ = AV.int .i64 _; refine int_eq ?_; simp) slots_nil) (by exact ⟨rfl, trivial⟩) (by repeat' (first | exact kept_nil | apply kept_cons | rfl)) (by repeat' (first | exact kept_nil | apply kept_cons | rfl)))
  | succ M =>
    refine RawC.walk (H := hint25 Try.prog) ir25 Try.func25 rfl rfl rfl ?_
    unfold ir25
    repeat' (first
      | with_reducible (first | refine Rd.p ?_ | refine w_alt ?_ ?_ | refine zE ?_ | refine zE0 ?_)
      | with_reducible (first | refine zI fun y hy => ?_ | refine zL ?_ | refine zS ?_ | refine zA fun _ => ?_ | refine zV ?_ | refine zC ?_ | refine zG ?_ | refine zU ?_ | refine zG0 ?_ | refine zU0 ?_ | refine zF ?_)
      | ((with_reducible refine acall_id ?_); refine ACall.val hck rfl rfl ?_)
      | with_reducible (first | refine zX ?_ | refine zD fun _ => ?_ | refine zD0 ?_ | refine zN ?_ | refine zF0 ?_ | refine zX0 ?_ | refine z1 ?_ | refine z2 ?_ | refine z3 ?_ | refine z4 ?_ | refine z5 ?_ | refine z6 ?_ | refine z7 ?_ | refine z8 ?_ | refine y1 ?_ | refine y2 ?_ | refine y3 ?_ | refine y4 ?_ | refine y5 ?_ | refine y6 ?_ | refine y7 ?_ | refine y8 ?_ | refine Rt.p (fun _ => ?_) fun _ => ?_)
      | ((with_reducible apply w_ixM); (focus exact rfl); (focus exact rfl); case' hk => intro y hy) | ((with_reducible (first | apply w_val | apply q_ends)); (focus exact rfl)))
    rename_i g1 g2 g6
    refine w_loopK [1, 2, 6] [1, 2, 6] (fun x : Nat × Nat => x.1 ≤ M + 1) (fun x => M + 1 - x.1) (fun x => [(8, .int .i64 x.1), (7, lvZ x.2 x.1)]) (fun x => [(7, lxZ x.2 (rwZ x.1) x.1)]) (0, 0) (Nat.zero_le _) ⟨rfl, rfl, trivial⟩ (by exact ⟨rfl, trivial⟩) ?_
    rintro ⟨k, g7⟩ hk e σ
    dsimp only at hk ⊢
    by_cases hkN : k < M + 1
    · cases k with
      | zero =>
        dsimp only [lvZ, lxZ]
        repeat' (first
          | with_reducible (first | refine Rd.p ?_ | refine w_alt ?_ ?_ | refine zE ?_ | refine zE0 ?_)
          | (refine w_apm2N (a := 100000) (b := 0) rfl rfl ?_; intro g')
          | with_reducible (first | refine zI fun y hy => ?_ | refine zL ?_ | refine zS ?_ | refine zA fun _ => ?_ | refine zV ?_ | refine zC ?_ | refine zG ?_ | refine zU ?_ | refine zG0 ?_ | refine zU0 ?_ | refine zF ?_)
          | with_reducible (first | refine zX ?_ | refine zD fun _ => ?_ | refine zD0 ?_ | refine zN ?_ | refine zF0 ?_ | refine zX0 ?_ | refine z1 ?_ | refine z2 ?_ | refine z3 ?_ | refine z4 ?_ | refine z5 ?_ | refine z6 ?_ | refine z7 ?_ | refine z8 ?_ | refine y1 ?_ | refine y2 ?_ | refine y3 ?_ | refine y4 ?_ | refine y5 ?_ | refine y6 ?_ | refine y7 ?_ | refine y8 ?_ | refine Rt.p (fun _ => ?_) fun _ => ?_)
          | ((with_reducible apply w_ixM); (focus exact rfl); (focus exact rfl); case' hk => intro y hy) | ((with_reducible (first | apply w_val | apply q_ends)); (focus exact rfl)))
        all_goals first
          | (exfalso; omega)
          | (refine q_loop (1, g') (by dsimp only; omega) (by dsimp only; omega) (slots_cons rfl (slots_cons rfl slots_nil)) (by exact ⟨rfl, trivial⟩) (by repeat' (first | exact kept_nil | apply kept_cons | rfl)) (by repeat' (first | exact kept_nil | apply kept_cons | rfl)))
      | succ k =>
        dsimp only [lvZ, lxZ]
        repeat' (first
          | with_reducible (first | refine Rd.p ?_ | refine w_alt ?_ ?_ | refine zE ?_ | refine zE0 ?_)
          | (refine w_apm2M (a := 100000) (b := 0) (xs := rwZ (k + 1)) (rwZ_len _) rfl rfl rfl (by omega) ?_; intro g')
          | with_reducible (first | refine zI fun y hy => ?_ | refine zL ?_ | refine zS ?_ | refine zA fun _ => ?_ | refine zV ?_ | refine zC ?_ | refine zG ?_ | refine zU ?_ | refine zG0 ?_ | refine zU0 ?_ | refine zF ?_)
          | with_reducible (first | refine zX ?_ | refine zD fun _ => ?_ | refine zD0 ?_ | refine zN ?_ | refine zF0 ?_ | refine zX0 ?_ | refine z1 ?_ | refine z2 ?_ | refine z3 ?_ | refine z4 ?_ | refine z5 ?_ | refine z6 ?_ | refine z7 ?_ | refine z8 ?_ | refine y1 ?_ | refine y2 ?_ | refine y3 ?_ | refine y4 ?_ | refine y5 ?_ | refine y6 ?_ | refine y7 ?_ | refine y8 ?_ | refine Rt.p (fun _ => ?_) fun _ => ?_)
          | ((with_reducible apply w_ixM); (focus exact rfl); (focus exact rfl); case' hk => intro y hy) | ((with_reducible (first | apply w_val | apply q_ends)); (focus exact rfl)))
        all_goals first
          | (exfalso; omega)
          | (refine q_loop (k + 1 + 1, g') (by dsimp only; omega) (by dsimp only; omega) (slots_cons (by show AV.int .i64 _ = AV.int .i64 _; refine int_eq ?_; simp) (slots_cons rfl slots_nil)) (slots_cons (by show (g', Res.row _) = (g', Res.row _); rw [rwZ_succ (k + 1)]) slots_nil) (by repeat' (first | exact kept_nil | apply kept_cons | rfl)) (by repeat' (first | exact kept_nil | apply kept_cons | rfl)))
    obtain rfl : k = M + 1 := by omega
    dsimp only [lvZ, lxZ]
    repeat' (first
      | with_reducible (first | refine Rd.p ?_ | refine w_alt ?_ ?_ | refine zE ?_ | refine zE0 ?_)
      | with_reducible (first | refine zI fun y hy => ?_ | refine zL ?_ | refine zS ?_ | refine zA fun _ => ?_ | refine zV ?_ | refine zC ?_ | refine zG ?_ | refine zU ?_ | refine zG0 ?_ | refine zU0 ?_ | refine zF ?_)
      | ((with_reducible refine acall_id ?_); refine ACall.val hS rfl rfl ?_)
      | with_reducible (first | refine zX ?_ | refine zD fun _ => ?_ | refine zD0 ?_ | refine zN ?_ | refine zF0 ?_ | refine zX0 ?_ | refine z1 ?_ | refine z2 ?_ | refine z3 ?_ | refine z4 ?_ | refine z5 ?_ | refine z6 ?_ | refine z7 ?_ | refine z8 ?_ | refine y1 ?_ | refine y2 ?_ | refine y3 ?_ | refine y4 ?_ | refine y5 ?_ | refine y6 ?_ | refine y7 ?_ | refine y8 ?_ | refine Rt.p (fun _ => ?_) fun _ => ?_)
      | ((with_reducible apply w_ixM); (focus exact rfl); (focus exact rfl); case' hk => intro y hy) | ((with_reducible (first | apply w_val | apply q_ends)); (focus exact rfl)))
    all_goals try (exfalso; omega)
    refine w_loopK [2, 6, 7, 9] [2] (fun x : List (List Int) × List (List Int) × Int × Int × List Int => T = x.1 ++ x.2.1 ∧ R = (x.2.1.map fun o => (o, leO c o)).foldl (daysT c) ([x.2.2.1, x.2.2.2.1], x.2.2.2.2) ∧ x.2.2.2.2.length = (M + 1) * 2) (fun x => x.2.1.length) (fun x => [(10, .int .i64 x.1.length)]) (fun x => [(6, (g6, .row [.int .i64 x.2.2.1, .int .i64 x.2.2.2.1])), (7, (g7, .row (x.2.2.2.2.map (AV.int .i64))))]) ([], T, 100000, 0, rwZ (M + 1)) ⟨rfl, hR, rwZ_len _⟩ ⟨rfl, trivial⟩ (by exact ⟨rfl, rfl, trivial⟩) ?_
    rintro ⟨pre, post, a, b, xs⟩ ⟨hpp, hRR, hxs⟩ e σ
    dsimp only at hpp hRR hxs ⊢
    have hlen := congrArg List.length hpp
    rw [List.length_append] at hlen
    cases post with
    | nil =>
      simp only [List.length_nil] at hlen
      have hRR : R = ([a, b], xs) := hRR
      rw [hRR] at hRf
      have hab : a = mLo ∧ b = mHi := by simpa using hRf
      have hR2 : R.2 = xs := by rw [hRR]
      repeat' (first
        | with_reducible (first | refine Rd.p ?_ | refine w_alt ?_ ?_ | refine zE ?_ | refine zE0 ?_)
        | with_reducible (first | refine zI fun y hy => ?_ | refine zL ?_ | refine zS ?_ | refine zA fun _ => ?_ | refine zV ?_ | refine zC ?_ | refine zG ?_ | refine zU ?_ | refine zG0 ?_ | refine zU0 ?_ | refine zF ?_)
        | (refine w_frzG [(2, .ref 2 g2 0), (6, .ref 6 g6 0), (7, .slc 2 (sR (pairs (M + 1) xs)) .non)] [(2, (g2, .row [.int .i64 0, .int .i64 0])), (6, (g6, .row [.int .i64 a, .int .i64 b]))] rfl rfl (by simp [AV.scal]) ⟨rfl, rfl, frzA_msl2 hxs, trivial⟩ ⟨frzS_at rfl (by decide) rfl, frzS_at rfl (by decide) rfl, trivial⟩ ?_; intro e σ)
        | with_reducible (first | refine zX ?_ | refine zD fun _ => ?_ | refine zD0 ?_ | refine zN ?_ | refine zF0 ?_ | refine zX0 ?_ | refine z1 ?_ | refine z2 ?_ | refine z3 ?_ | refine z4 ?_ | refine z5 ?_ | refine z6 ?_ | refine z7 ?_ | refine z8 ?_ | refine y1 ?_ | refine y2 ?_ | refine y3 ?_ | refine y4 ?_ | refine y5 ?_ | refine y6 ?_ | refine y7 ?_ | refine y8 ?_ | refine Rt.p (fun _ => ?_) fun _ => ?_)
        | ((with_reducible apply w_ixM); (focus exact rfl); (focus exact rfl); case' hk => intro y hy) | ((with_reducible (first | apply w_val | apply q_ends)); (focus exact rfl)))
      all_goals first
        | (exfalso; omega)
        | (rw [hR2, ← hab.1, ← hab.2]; rfl)
    | cons o post =>
      simp only [List.length_cons] at hlen
      have hop := hTp o (by rw [hpp]; simp)
      have hol := hop.len
      have hgo : T[pre.length]? = some o := by rw [hpp]; simp
      rw [hstep] at hRR
      have hle0 : (leO c o)[0]? = some (getI (leO c o) 0) := getI_some (k := 0) (by rw [hleL]; omega)
      have hla0 : (latF c o)[0]? = some (getI (latF c o) 0) := getI_some (k := 0) (by rw [hlaL]; omega)
      repeat' (first
        | with_reducible (first | refine Rd.p ?_ | refine w_alt ?_ ?_ | refine zE ?_ | refine zE0 ?_)
        | (first | refine w_ixE (f := stR c) hgo rfl rfl ?_ | refine w_ixE hle0 rfl rfl ?_ | refine w_ixE hla0 rfl rfl ?_)
        | with_reducible (first | refine zI fun y hy => ?_ | refine zL ?_ | refine zS ?_ | refine zA fun _ => ?_ | refine zV ?_ | refine zC ?_ | refine zG ?_ | refine zU ?_ | refine zG0 ?_ | refine zU0 ?_ | refine zF ?_)
        | ((with_reducible refine acall_id ?_); refine ACall.val (wider_s _ _ _ _) rfl rfl ?_)
        | with_reducible (first | refine zX ?_ | refine zD fun _ => ?_ | refine zD0 ?_ | refine zN ?_ | refine zF0 ?_ | refine zX0 ?_ | refine z1 ?_ | refine z2 ?_ | refine z3 ?_ | refine z4 ?_ | refine z5 ?_ | refine z6 ?_ | refine z7 ?_ | refine z8 ?_ | refine y1 ?_ | refine y2 ?_ | refine y3 ?_ | refine y4 ?_ | refine y5 ?_ | refine y6 ?_ | refine y7 ?_ | refine y8 ?_ | refine Rt.p (fun _ => ?_) fun _ => ?_)
        | ((with_reducible apply w_ixM); (focus exact rfl); (focus exact rfl); case' hk => intro y hy) | ((with_reducible (first | apply w_val | apply q_ends)); (focus exact rfl)))
      all_goals try (exfalso; omega)
      refine w_loopK [2, 6, 7, 9, 10] [2, 6] (fun x : List Int × List Int × List Int => o = x.1 ++ x.2.1 ∧ linkW c (o, leO c o) 0 o xs = linkW c (o, leO c o) x.1.length x.2.1 x.2.2 ∧ x.2.2.length = (M + 1) * 2) (fun x => x.2.1.length) (fun x => [(11, .int .i64 x.1.length)]) (fun x => [(7, (g7, .row (x.2.2.map (AV.int .i64))))]) ([], o, xs) ⟨rfl, rfl, hxs⟩ ⟨rfl, trivial⟩ (by exact ⟨rfl, trivial⟩) ?_
      rintro ⟨p, q, ys⟩ ⟨hpq, hlw, hys⟩ e σ
      dsimp only at hpq hlw hys ⊢
      have hlen2 := congrArg List.length hpq
      rw [List.length_append] at hlen2
      cases q with
      | nil =>
        simp only [List.length_nil] at hlen2
        rw [linkW] at hlw
        rw [hlw] at hRR
        repeat' (first
          | with_reducible (first | refine Rd.p ?_ | refine w_alt ?_ ?_ | refine zE ?_ | refine zE0 ?_)
          | (refine w_ixE (f := stR c) hgo rfl rfl ?_)
          | with_reducible (first | refine zI fun y hy => ?_ | refine zL ?_ | refine zS ?_ | refine zA fun _ => ?_ | refine zV ?_ | refine zC ?_ | refine zG ?_ | refine zU ?_ | refine zG0 ?_ | refine zU0 ?_ | refine zF ?_)
          | with_reducible (first | refine zX ?_ | refine zD fun _ => ?_ | refine zD0 ?_ | refine zN ?_ | refine zF0 ?_ | refine zX0 ?_ | refine z1 ?_ | refine z2 ?_ | refine z3 ?_ | refine z4 ?_ | refine z5 ?_ | refine z6 ?_ | refine z7 ?_ | refine z8 ?_ | refine y1 ?_ | refine y2 ?_ | refine y3 ?_ | refine y4 ?_ | refine y5 ?_ | refine y6 ?_ | refine y7 ?_ | refine y8 ?_ | refine Rt.p (fun _ => ?_) fun _ => ?_)
          | ((with_reducible apply w_ixM); (focus exact rfl); (focus exact rfl); case' hk => intro y hy) | ((with_reducible (first | apply w_val | apply q_ends)); (focus exact rfl)))
        all_goals first
          | (exfalso; omega)
          | (refine q_loop (pre ++ [o], post, _, _, ys) ⟨by show T = _; rw [hpp]; simp, hRR, hys⟩ (by simp) (slots_cons (by show AV.int .i64 _ = AV.int .i64 _; refine int_eq ?_; simp) slots_nil) (by exact ⟨rfl, rfl, trivial⟩) (by repeat' (first | exact kept_nil | apply kept_cons | rfl)) (by repeat' (first | exact kept_nil | apply kept_cons | rfl)))
      | cons z q =>
        simp only [List.length_cons] at hlen2
        have hz := hop.bd z (by rw [hpq]; simp)
        have hgz : o[p.length]? = some z := by rw [hpq]; simp
        have hle1 : (leO c o)[p.length + 1]? = some (getI (leO c o) ((p.length : Int) + 1)) := getI_some (k := p.length + 1) (by rw [hleL]; omega)
        have hla1 : (latF c o)[p.length + 1]? = some (getI (latF c o) ((p.length : Int) + 1)) := getI_some (k := p.length + 1) (by rw [hlaL]; omega)
        rw [linkW] at hlw
        repeat' (first
          | with_reducible (first | refine Rd.p ?_ | refine w_alt ?_ ?_ | refine zE ?_ | refine zE0 ?_)
          | (first | refine w_ixE (f := stR c) hgo rfl rfl ?_ | refine w_ixE hgz rfl rfl ?_ | refine w_ixE hle1 rfl rfl ?_ | refine w_ixE hla1 rfl rfl ?_ | refine w_ld2K rfl rfl (by omega) ?_ | refine w_st2 rfl rfl rfl (by omega) ?_)
          | with_reducible (first | refine zI fun y hy => ?_ | refine zL ?_ | refine zS ?_ | refine zA fun _ => ?_ | refine zV ?_ | refine zC ?_ | refine zG ?_ | refine zU ?_ | refine zG0 ?_ | refine zU0 ?_ | refine zF ?_)
          | ((with_reducible refine acall_id ?_); refine ACall.val (wider_s _ _ _ _) rfl rfl ?_)
          | with_reducible (first | refine zX ?_ | refine zD fun _ => ?_ | refine zD0 ?_ | refine zN ?_ | refine zF0 ?_ | refine zX0 ?_ | refine z1 ?_ | refine z2 ?_ | refine z3 ?_ | refine z4 ?_ | refine z5 ?_ | refine z6 ?_ | refine z7 ?_ | refine z8 ?_ | refine y1 ?_ | refine y2 ?_ | refine y3 ?_ | refine y4 ?_ | refine y5 ?_ | refine y6 ?_ | refine y7 ?_ | refine y8 ?_ | refine Rt.p (fun _ => ?_) fun _ => ?_)
          | ((with_reducible apply w_ixM); (focus exact rfl); (focus exact rfl); case' hk => intro y hy) | ((with_reducible (first | apply w_val | apply q_ends)); (focus exact rfl)))
        all_goals first
          | (exfalso; omega)
          | (refine q_loop (p ++ [z], q, _) ⟨by show o = _; rw [hpq]; simp, by dsimp only; rw [hlw, List.length_append]; rfl, by dsimp only; rw [wideS_len]; exact hys⟩ (by simp) (slots_cons (by show AV.int .i64 _ = AV.int .i64 _; refine int_eq ?_; simp) slots_nil) (by exact ⟨rfl, trivial⟩) (by repeat' (first | exact kept_nil | apply kept_cons | rfl)) (by repeat' (first | exact kept_nil | apply kept_cons | rfl)))
end Go.Abs
