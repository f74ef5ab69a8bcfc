/- A part of the proofs of the laws of this seat: contracts of the functions that they reach, each proved of the program's form in Lean. No condition beyond those that each contract names. -/
import Derived.Test.YtmekfgjlcaonjaaC14
import Derived.Test.YtmekfgjlcaonjaaC13
import Derived.Test.YtmekfgjlcaonjaaC12
import Derived.Test.YtmekfgjlcaonjaaC11
import Derived.Test.YtmekfgjlcaonjaaC10
import Derived.Test.YtmekfgjlcaonjaaC9
import Derived.Test.YtmekfgjlcaonjaaC8
import Derived.Test.YtmekfgjlcaonjaaC7
import Derived.Test.YtmekfgjlcaonjaaC5
import Derived.Test.YtmekfgjlcaonjaaC4
import Derived.Test.YtmekfgjlcaonjaaC2
import Derived.Test.YtmekfgjlcaonjaaC1
import Derived.Test.YtmekfgjlcaonjaaB
set_option linter.unusedVariables false
set_option linter.unusedSimpArgs false
set_option maxRecDepth 20000
set_option maxHeartbeats 4000000
namespace Go.Abs
open Go.Proofs
/-- aloeswood/aloeswoodlaw09.repeats -/
def ir50 : IFn :=
  ⟨43, [(4, none)], (.seq (.ops [⟨(some 2), none, (.box 2 (.t 0))⟩,
    ⟨(some 4), none, (.mov (.k (.int .i64 0)))⟩])
  (.seq (.ops [⟨(some 5), none, (.mov (.k (.int .i64 0)))⟩])
  (.seq (.seq (.ops [⟨(some 6), none, (.mov (.k (.int .i64 0)))⟩])
  (.blk 0 (.loop (.seq (.seq (.ops [⟨(some 9), none, (.mov (.t 6))⟩,
        ⟨(some 10), none, (.bin .lss (.t 9) (.k (.int .i64 12)))⟩])
      (.cnd (.t 10)
        .skip
        (.exit 0)))
      (.seq (.blk 1 (.seq (.ops [⟨(some 7), none, (.nil 1 7)⟩])
        (.seq (.ops [⟨(some 8), none, (.mov (.k (.int .i64 0)))⟩])
        (.blk 2 (.loop (.seq (.seq (.ops [⟨(some 13), none, (.mov (.t 8))⟩,
              ⟨(some 14), none, (.mov (.t 1))⟩,
              ⟨(some 15), none, (.len false (.t 14))⟩,
              ⟨(some 16), none, (.bin .lss (.t 13) (.t 15))⟩])
            (.cnd (.t 16)
              .skip
              (.exit 2)))
            (.seq (.blk 3 (.seq (.seq (.ops [⟨(some 19), none, (.flA 1 (.t 2))⟩,
                ⟨(some 20), none, (.ld 1 false (.t 19))⟩,
                ⟨(some 21), none, (.mov (.t 8))⟩,
                ⟨(some 22), none, (.ixA 1 (.t 20) (.t 21))⟩,
                ⟨(some 23), none, (.ld 1 false (.t 22))⟩,
                ⟨(some 24), none, (.mov (.t 6))⟩,
                ⟨(some 25), none, (.callF 37 [(.t 23), (.t 24)])⟩,
                ⟨(some 26), none, (.not (.t 25))⟩])
              (.cnd (.t 26)
                (.exit 3)
                .skip))
              (.seq (.seq (.ops [⟨(some 27), none, (.mov (.t 7))⟩,
                ⟨(some 28), none, (.mov (.t 1))⟩,
                ⟨(some 29), none, (.mov (.t 8))⟩,
                ⟨(some 30), none, (.ixA 1 (.t 28) (.t 29))⟩,
                ⟨(some 31), none, (.ld 1 false (.t 30))⟩,
                ⟨(some 32), none, (.callF 37 [(.t 27), (.t 31)])⟩])
              (.cnd (.t 32)
                (.ops [⟨(some 33), none, (.mov (.t 5))⟩,
                  ⟨(some 34), none, (.bin .add (.t 33) (.k (.int .i64 1)))⟩,
                  ⟨(some 5), none, (.mov (.t 34))⟩])
                .skip))
              (.ops [⟨(some 35), none, (.mov (.t 7))⟩,
                ⟨(some 36), none, (.mov (.t 1))⟩,
                ⟨(some 37), none, (.mov (.t 8))⟩,
                ⟨(some 38), none, (.ixA 1 (.t 36) (.t 37))⟩,
                ⟨(some 39), none, (.ld 1 false (.t 38))⟩,
                ⟨(some 40), none, (.bsl 1 [[(.int .i64 0)]] [(0, (.t 39))])⟩,
                ⟨(some 41), none, (.app 1 8 (.t 35) (.t 40) 7)⟩,
                ⟨(some 7), none, (.mov (.t 41))⟩]))))
            (.ops [⟨(some 17), none, (.mov (.t 8))⟩,
              ⟨(some 18), none, (.bin .add (.t 17) (.k (.int .i64 1)))⟩,
              ⟨(some 8), none, (.mov (.t 18))⟩]))))))))
      (.ops [⟨(some 11), none, (.mov (.t 6))⟩,
        ⟨(some 12), none, (.bin .add (.t 11) (.k (.int .i64 1)))⟩,
        ⟨(some 6), none, (.mov (.t 12))⟩]))))))
  (.seq (.ops [⟨(some 42), none, (.mov (.t 5))⟩,
    ⟨(some 4), none, (.mov (.t 42))⟩])
  .ret))))⟩
def hint50 (P : Program) : Hint := { site := [(41, 7)], nils := [(7, 1)], frz := [], mve := [], wr := [] }
/-- The repeats of a guest. -/
def repg : List (List Int) → List Int → Int → List Int → Int
  | G :: gs, n :: p, g, met => if g ∈ G then (if n ∈ met then 1 else 0) + repg gs p g (met ++ [n]) else repg gs p g met
  | _, _, _, _ => 0
def repT (s : Sea) (p : List Int) : Nat → Int
  | 0 => 0
  | k + 1 => repT s p k + repg s.gs p k []
theorem drop_gAt {gs : List (List Int)} {n : Nat} (h : n < gs.length) : gs.drop n = gAt gs n :: gs.drop (n + 1) := by
  unfold gAt
  rw [List.getElem?_eq_getElem h, List.drop_eq_getElem_cons h]; rfl
theorem repeatsL_c (s : Sea) (p : List Int) (a : AV) (hN : NowE a p) (hpl : p.length ≤ s.gs.length) (h2 : s.gs.length < 1000) (h3 : ∀ l ∈ s.gs, l.length < 1000) :
    Fn0 Try.prog 50 [seA s, a] (fun v => v = .int .i64 (repT s p 12)) := by
  rcases hN with ⟨rfl, hp0⟩ | rfl
  all_goals
    (try have h0 : p.length = 0 := by rw [hp0]; rfl)
    refine RawC.walk (H := hint50 Try.prog) ir50 Try.func50 rfl rfl rfl ?_
    unfold ir50
    repeat' (first
      | with_reducible (first | refine Rd.p ?_ | refine w_alt ?_ ?_ | refine zE ?_ | refine zE0 ?_)
      | with_reducible (first | refine zI fun y hy => ?_ | refine zL ?_ | refine zS ?_ | refine zA fun _ => ?_ | refine zV ?_ | refine zC ?_ | refine zG ?_ | refine zU ?_ | refine zG0 ?_ | refine zU0 ?_ | refine zF ?_)
      | with_reducible (first | refine zX ?_ | refine zD fun _ => ?_ | refine zD0 ?_ | refine zN ?_ | refine zF0 ?_ | refine zX0 ?_ | refine z1 ?_ | refine z2 ?_ | refine z3 ?_ | refine z4 ?_ | refine z5 ?_ | refine z6 ?_ | refine z7 ?_ | refine z8 ?_ | refine y1 ?_ | refine y2 ?_ | refine y3 ?_ | refine y4 ?_ | refine y5 ?_ | refine y6 ?_ | refine y7 ?_ | refine y8 ?_ | refine Rt.p (fun _ => ?_) fun _ => ?_)
      | ((with_reducible apply w_ixM); (focus exact rfl); (focus exact rfl); case' hk => intro y hy) | ((with_reducible (first | apply w_val | apply q_ends)); (focus exact rfl)))
    refine w_loopK [1, 2] [2] (fun x : Nat × Int => x.1 ≤ 12 ∧ x.2 = repT s p x.1 ∧ 0 ≤ x.2 ∧ x.2 ≤ 1000 * x.1) (fun x => 12 - x.1) (fun x => [(6, .int .i64 x.1), (5, .int .i64 x.2)]) (fun _ => []) (0, 0) ⟨by show (0 : Nat) ≤ 12; omega, rfl, by show (0 : Int) ≤ 0; omega, by show (0 : Int) ≤ 1000 * ((0 : Nat) : Int); omega⟩ ⟨rfl, rfl, trivial⟩ trivial ?_
    rintro ⟨gg, acc⟩ ⟨hg, hacc, ha0, ha1⟩ e σ
    dsimp only at hg hacc ha0 ha1 ⊢
    by_cases hgt : gg < 12
    case neg =>
      obtain rfl : gg = 12 := by omega
      repeat' (first
        | with_reducible (first | refine Rd.p ?_ | refine w_alt ?_ ?_ | refine zE ?_ | refine zE0 ?_)
        | with_reducible (first | refine zI fun y hy => ?_ | refine zL ?_ | refine zS ?_ | refine zA fun _ => ?_ | refine zV ?_ | refine zC ?_ | refine zG ?_ | refine zU ?_ | refine zG0 ?_ | refine zU0 ?_ | refine zF ?_)
        | with_reducible (first | refine zX ?_ | refine zD fun _ => ?_ | refine zD0 ?_ | refine zN ?_ | refine zF0 ?_ | refine zX0 ?_ | refine z1 ?_ | refine z2 ?_ | refine z3 ?_ | refine z4 ?_ | refine z5 ?_ | refine z6 ?_ | refine z7 ?_ | refine z8 ?_ | refine y1 ?_ | refine y2 ?_ | refine y3 ?_ | refine y4 ?_ | refine y5 ?_ | refine y6 ?_ | refine y7 ?_ | refine y8 ?_ | refine Rt.p (fun _ => ?_) fun _ => ?_)
        | ((with_reducible apply w_ixM); (focus exact rfl); (focus exact rfl); case' hk => intro y hy) | ((with_reducible (first | apply w_val | apply q_ends)); (focus exact rfl)))
      rw [hacc]; rfl
    repeat' (first
      | with_reducible (first | refine Rd.p ?_ | refine w_alt ?_ ?_ | refine zE ?_ | refine zE0 ?_)
      | with_reducible (first | refine zI fun y hy => ?_ | refine zL ?_ | refine zS ?_ | refine zA fun _ => ?_ | refine zV ?_ | refine zC ?_ | refine zG ?_ | refine zU ?_ | refine zG0 ?_ | refine zU0 ?_ | refine zF ?_)
      | with_reducible (first | refine zX ?_ | refine zD fun _ => ?_ | refine zD0 ?_ | refine zN ?_ | refine zF0 ?_ | refine zX0 ?_ | refine z1 ?_ | refine z2 ?_ | refine z3 ?_ | refine z4 ?_ | refine z5 ?_ | refine z6 ?_ | refine z7 ?_ | refine z8 ?_ | refine y1 ?_ | refine y2 ?_ | refine y3 ?_ | refine y4 ?_ | refine y5 ?_ | refine y6 ?_ | refine y7 ?_ | refine y8 ?_ | refine Rt.p (fun _ => ?_) fun _ => ?_)
      | ((with_reducible apply w_ixM); (focus exact rfl); (focus exact rfl); case' hk => intro y hy) | ((with_reducible (first | apply w_val | apply q_ends)); (focus exact rfl)))
    rename_i g7
    refine w_loopK [1, 2, 6] [2] (fun x : List Int × List Int × List Int × Nat × Int => p = x.1 ++ x.2.1 ∧ acc + repg s.gs p gg [] = x.2.2.2.2 + repg (s.gs.drop x.1.length) x.2.1 gg x.2.2.1 ∧ 0 ≤ x.2.2.2.2 ∧ x.2.2.2.2 ≤ 1000 * gg + x.1.length ∧ x.2.2.1.length ≤ x.1.length) (fun x => x.2.1.length) (fun x => [(8, .int .i64 x.1.length), (5, .int .i64 x.2.2.2.2), (7, .slc 1 (iR x.2.2.1) (.own 7 x.2.2.2.1))]) (fun x => [(7, (x.2.2.2.1, .row []))]) ([], p, [], g7, acc) ⟨rfl, rfl, ha0, by dsimp only [List.length_nil]; omega, Nat.le_refl _⟩ ⟨rfl, rfl, rfl, trivial⟩ ⟨rfl, trivial⟩ ?_
    rintro ⟨pre, post, met, g7, cnt⟩ ⟨hpp, heq, hc0, hc1, hml⟩ e σ
    dsimp only at hpp heq hc0 hc1 hml ⊢
    have hlen := congrArg List.length hpp
    rw [List.length_append] at hlen
    cases post with
    | nil =>
      simp only [List.length_nil] at hlen
      have hz : ∀ l : List (List Int), repg l [] gg met = 0 := fun l => by cases l <;> rfl
      rw [hz] at heq
      repeat' (first
        | with_reducible (first | refine Rd.p ?_ | refine w_alt ?_ ?_ | refine zE ?_ | refine zE0 ?_)
        | with_reducible (first | refine zI fun y hy => ?_ | refine zL ?_ | refine zS ?_ | refine zA fun _ => ?_ | refine zV ?_ | refine zC ?_ | refine zG ?_ | refine zU ?_ | refine zG0 ?_ | refine zU0 ?_ | refine zF ?_)
        | with_reducible (first | refine zX ?_ | refine zD fun _ => ?_ | refine zD0 ?_ | refine zN ?_ | refine zF0 ?_ | refine zX0 ?_ | refine z1 ?_ | refine z2 ?_ | refine z3 ?_ | refine z4 ?_ | refine z5 ?_ | refine z6 ?_ | refine z7 ?_ | refine z8 ?_ | refine y1 ?_ | refine y2 ?_ | refine y3 ?_ | refine y4 ?_ | refine y5 ?_ | refine y6 ?_ | refine y7 ?_ | refine y8 ?_ | refine Rt.p (fun _ => ?_) fun _ => ?_)
        | ((with_reducible apply w_ixM); (focus exact rfl); (focus exact rfl); case' hk => intro y hy) | ((with_reducible (first | apply w_val | apply q_ends)); (focus exact rfl)))
      refine q_loop (gg + 1, cnt) ⟨by dsimp only; omega, ?_, hc0, ?_⟩ ?_ (slots_cons (by show AV.int .i64 _ = AV.int .i64 _; refine int_eq ?_; simp) (slots_cons rfl slots_nil)) trivial (by repeat' (first | exact kept_nil | apply kept_cons | rfl)) (by repeat' (first | exact kept_nil | apply kept_cons | rfl))
      · show cnt = repT s p gg + repg s.gs p gg []
        rw [← hacc]; omega
      · dsimp only; omega
      · show 12 - (gg + 1) < 12 - gg; omega
    | cons x post =>
      simp only [List.length_cons] at hlen
      first
        | (exfalso; omega)
        | (have hlt : pre.length < s.gs.length := by omega
           rw [drop_gAt hlt, repg] at heq
           have hG := has_c (gAt s.gs pre.length) gg (by have := h3 _ (gAt_mem hlt); omega)
           have hM := has_c met x (by omega)
           have hms : (met ++ [x]).length = met.length + 1 := by simp
           by_cases hgG : (gg : Int) ∈ gAt s.gs pre.length
           · rw [if_pos hgG] at heq
             rw [decide_eq_true hgG] at hG
             by_cases hmx : x ∈ met
             · rw [if_pos hmx] at heq
               rw [decide_eq_true hmx] at hM
               repeat' (first
                 | with_reducible (first | refine Rd.p ?_ | refine w_alt ?_ ?_ | refine zE ?_ | refine zE0 ?_)
                 | (first | refine w_ixP hpp rfl rfl ?_ | refine w_ixLL (n := pre.length) rfl rfl (by omega) ?_)
                 | with_reducible (first | refine zI fun y hy => ?_ | refine zL ?_ | refine zS ?_ | refine zA fun _ => ?_ | refine zV ?_ | refine zC ?_ | refine zG ?_ | refine zU ?_ | refine zG0 ?_ | refine zU0 ?_ | refine zF ?_)
                 | ((with_reducible refine acall_id ?_); refine ACall.val hG rfl rfl ?_)
                 | ((with_reducible refine acall_id ?_); refine ACall.val hM rfl rfl ?_)
                 | with_reducible (first | refine zX ?_ | refine zD fun _ => ?_ | refine zD0 ?_ | refine zN ?_ | refine zF0 ?_ | refine zX0 ?_ | refine z1 ?_ | refine z2 ?_ | refine z3 ?_ | refine z4 ?_ | refine z5 ?_ | refine z6 ?_ | refine z7 ?_ | refine z8 ?_ | refine y1 ?_ | refine y2 ?_ | refine y3 ?_ | refine y4 ?_ | refine y5 ?_ | refine y6 ?_ | refine y7 ?_ | refine y8 ?_ | refine Rt.p (fun _ => ?_) fun _ => ?_)
                 | ((with_reducible apply w_ixM); (focus exact rfl); (focus exact rfl); case' hk => intro y hy) | ((with_reducible (first | apply w_val | apply q_ends)); (focus exact rfl)))
               refine q_loop (pre ++ [x], post, met ++ [x], _, cnt + 1) ⟨by rw [hpp]; simp, ?_, by dsimp only; omega, by dsimp only; rw [show (pre ++ [x]).length = pre.length + 1 by simp]; omega, by dsimp only; rw [show (pre ++ [x]).length = pre.length + 1 by simp]; omega⟩ ?_ (slots_cons (by show AV.int .i64 _ = AV.int .i64 _; refine int_eq ?_; simp) (slots_cons rfl (slots_cons rfl slots_nil))) (by exact ⟨rfl, trivial⟩) (by repeat' (first | exact kept_nil | apply kept_cons | rfl)) (by repeat' (first | exact kept_nil | apply kept_cons | rfl))
               · dsimp only; rw [show (pre ++ [x]).length = pre.length + 1 by simp]; omega
               · simp
             · rw [if_neg hmx] at heq
               rw [decide_eq_false hmx] at hM
               repeat' (first
                 | with_reducible (first | refine Rd.p ?_ | refine w_alt ?_ ?_ | refine zE ?_ | refine zE0 ?_)
                 | (first | refine w_ixP hpp rfl rfl ?_ | refine w_ixLL (n := pre.length) rfl rfl (by omega) ?_)
                 | with_reducible (first | refine zI fun y hy => ?_ | refine zL ?_ | refine zS ?_ | refine zA fun _ => ?_ | refine zV ?_ | refine zC ?_ | refine zG ?_ | refine zU ?_ | refine zG0 ?_ | refine zU0 ?_ | refine zF ?_)
                 | ((with_reducible refine acall_id ?_); refine ACall.val hG rfl rfl ?_)
                 | ((with_reducible refine acall_id ?_); refine ACall.val hM rfl rfl ?_)
                 | with_reducible (first | refine zX ?_ | refine zD fun _ => ?_ | refine zD0 ?_ | refine zN ?_ | refine zF0 ?_ | refine zX0 ?_ | refine z1 ?_ | refine z2 ?_ | refine z3 ?_ | refine z4 ?_ | refine z5 ?_ | refine z6 ?_ | refine z7 ?_ | refine z8 ?_ | refine y1 ?_ | refine y2 ?_ | refine y3 ?_ | refine y4 ?_ | refine y5 ?_ | refine y6 ?_ | refine y7 ?_ | refine y8 ?_ | refine Rt.p (fun _ => ?_) fun _ => ?_)
                 | ((with_reducible apply w_ixM); (focus exact rfl); (focus exact rfl); case' hk => intro y hy) | ((with_reducible (first | apply w_val | apply q_ends)); (focus exact rfl)))
               refine q_loop (pre ++ [x], post, met ++ [x], _, cnt) ⟨by rw [hpp]; simp, ?_, by dsimp only; omega, by dsimp only; rw [show (pre ++ [x]).length = pre.length + 1 by simp]; omega, by dsimp only; rw [show (pre ++ [x]).length = pre.length + 1 by simp]; omega⟩ ?_ (slots_cons (by show AV.int .i64 _ = AV.int .i64 _; refine int_eq ?_; simp) (slots_cons rfl (slots_cons rfl slots_nil))) (by exact ⟨rfl, trivial⟩) (by repeat' (first | exact kept_nil | apply kept_cons | rfl)) (by repeat' (first | exact kept_nil | apply kept_cons | rfl))
               · dsimp only; rw [show (pre ++ [x]).length = pre.length + 1 by simp]; omega
               · simp
           · rw [if_neg hgG] at heq
             rw [decide_eq_false hgG] at hG
             repeat' (first
               | with_reducible (first | refine Rd.p ?_ | refine w_alt ?_ ?_ | refine zE ?_ | refine zE0 ?_)
               | (first | refine w_ixP hpp rfl rfl ?_ | refine w_ixLL (n := pre.length) rfl rfl (by omega) ?_)
               | with_reducible (first | refine zI fun y hy => ?_ | refine zL ?_ | refine zS ?_ | refine zA fun _ => ?_ | refine zV ?_ | refine zC ?_ | refine zG ?_ | refine zU ?_ | refine zG0 ?_ | refine zU0 ?_ | refine zF ?_)
               | ((with_reducible refine acall_id ?_); refine ACall.val hG rfl rfl ?_)
               | with_reducible (first | refine zX ?_ | refine zD fun _ => ?_ | refine zD0 ?_ | refine zN ?_ | refine zF0 ?_ | refine zX0 ?_ | refine z1 ?_ | refine z2 ?_ | refine z3 ?_ | refine z4 ?_ | refine z5 ?_ | refine z6 ?_ | refine z7 ?_ | refine z8 ?_ | refine y1 ?_ | refine y2 ?_ | refine y3 ?_ | refine y4 ?_ | refine y5 ?_ | refine y6 ?_ | refine y7 ?_ | refine y8 ?_ | refine Rt.p (fun _ => ?_) fun _ => ?_)
               | ((with_reducible apply w_ixM); (focus exact rfl); (focus exact rfl); case' hk => intro y hy) | ((with_reducible (first | apply w_val | apply q_ends)); (focus exact rfl)))
             refine q_loop (pre ++ [x], post, met, g7, cnt) ⟨by rw [hpp]; simp, ?_, by dsimp only; omega, by dsimp only; rw [show (pre ++ [x]).length = pre.length + 1 by simp]; omega, by dsimp only; rw [show (pre ++ [x]).length = pre.length + 1 by simp]; omega⟩ ?_ (slots_cons (by show AV.int .i64 _ = AV.int .i64 _; refine int_eq ?_; simp) (slots_cons rfl (slots_cons rfl slots_nil))) (by exact ⟨rfl, trivial⟩) (by repeat' (first | exact kept_nil | apply kept_cons | rfl)) (by repeat' (first | exact kept_nil | apply kept_cons | rfl))
             · dsimp only; rw [show (pre ++ [x]).length = pre.length + 1 by simp]; omega
             · simp)
end Go.Abs
