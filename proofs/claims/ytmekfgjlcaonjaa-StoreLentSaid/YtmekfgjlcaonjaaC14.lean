/- A part of the proofs of the laws of this seat: contracts of the functions that they reach, each proved of the program's form in Lean. No condition beyond those that each contract names. -/
import Derived.Test.YtmekfgjlcaonjaaC13
import Derived.Test.YtmekfgjlcaonjaaC12
import Derived.Test.YtmekfgjlcaonjaaC11
import Derived.Test.YtmekfgjlcaonjaaC10
import Derived.Test.YtmekfgjlcaonjaaC9
import Derived.Test.YtmekfgjlcaonjaaC8
import Derived.Test.YtmekfgjlcaonjaaC7
import Derived.Test.YtmekfgjlcaonjaaC5
import Derived.Test.YtmekfgjlcaonjaaC4
import Derived.Test.YtmekfgjlcaonjaaC2
import Derived.Test.YtmekfgjlcaonjaaC1
import Derived.Test.YtmekfgjlcaonjaaB
set_option linter.unusedVariables false
set_option linter.unusedSimpArgs false
set_option maxRecDepth 20000
set_option maxHeartbeats 4000000
namespace Go.Abs
open Go.Proofs
/-- aloeswood/aloeswoodref09.Before -/
def ir64 : IFn :=
  ⟨30, [(4, none)], (.seq (.ops [⟨(some 4), none, (.mov (.k (.bool false)))⟩])
  (.seq (.seq (.ops [⟨(some 5), none, (.mov (.k (.int .i64 0)))⟩])
  (.blk 0 (.loop (.seq (.seq (.ops [⟨(some 6), none, (.mov (.t 5))⟩,
        ⟨(some 7), none, (.mov (.t 0))⟩,
        ⟨(some 8), none, (.len false (.t 7))⟩,
        ⟨(some 9), none, (.bin .lss (.t 6) (.t 8))⟩])
      (.cnd (.t 9)
        .skip
        (.exit 0)))
      (.seq (.blk 1 (.seq (.ops [⟨(some 12), none, (.mov (.t 0))⟩,
          ⟨(some 13), none, (.mov (.t 5))⟩,
          ⟨(some 14), none, (.ixA 1 (.t 12) (.t 13))⟩,
          ⟨(some 15), none, (.ld 1 false (.t 14))⟩,
          ⟨(some 16), none, (.mov (.t 1))⟩,
          ⟨(some 17), none, (.mov (.t 5))⟩,
          ⟨(some 18), none, (.ixA 1 (.t 16) (.t 17))⟩,
          ⟨(some 19), none, (.ld 1 false (.t 18))⟩,
          ⟨(some 20), none, (.bin .neq (.t 15) (.t 19))⟩])
        (.cnd (.t 20)
          (.seq (.ops [⟨(some 21), none, (.mov (.t 0))⟩,
            ⟨(some 22), none, (.mov (.t 5))⟩,
            ⟨(some 23), none, (.ixA 1 (.t 21) (.t 22))⟩,
            ⟨(some 24), none, (.ld 1 false (.t 23))⟩,
            ⟨(some 25), none, (.mov (.t 1))⟩,
            ⟨(some 26), none, (.mov (.t 5))⟩,
            ⟨(some 27), none, (.ixA 1 (.t 25) (.t 26))⟩,
            ⟨(some 28), none, (.ld 1 false (.t 27))⟩,
            ⟨(some 29), none, (.bin .lss (.t 24) (.t 28))⟩,
            ⟨(some 4), none, (.mov (.t 29))⟩])
          .ret)
          .skip)))
      (.ops [⟨(some 10), none, (.mov (.t 5))⟩,
        ⟨(some 11), none, (.bin .add (.t 10) (.k (.int .i64 1)))⟩,
        ⟨(some 5), none, (.mov (.t 11))⟩]))))))
  (.seq (.ops [⟨(some 4), none, (.mov (.k (.bool false)))⟩])
  .ret)))⟩
def hint64 (P : Program) : Hint := {}
/-- Which list comes first. -/
def befF : List Int → List Int → Bool
  | a :: r, b :: t => if a = b then befF r t else decide (a < b)
  | _, _ => false
theorem bef9_c (a b : List Int) (h : a.length ≤ b.length) (hl : b.length < 1000) : Fn0 Try.prog 64 [.slc 1 (iR a) .non, .slc 1 (iR b) .non] (fun v => v = .bool (befF a b)) := by
  refine RawC.walk (H := hint64 Try.prog) ir64 Try.func64 rfl rfl rfl ?_
  unfold ir64
  repeat' (first
    | with_reducible (first | refine Rd.p ?_ | refine w_alt ?_ ?_ | refine zE ?_ | refine zE0 ?_)
    | with_reducible (first | refine zI fun y hy => ?_ | refine zL ?_ | refine zS ?_ | refine zA fun _ => ?_ | refine zV ?_ | refine zC ?_ | refine zG ?_ | refine zU ?_ | refine zG0 ?_ | refine zU0 ?_ | refine zF ?_)
    | with_reducible (first | refine zX ?_ | refine zD fun _ => ?_ | refine zD0 ?_ | refine zN ?_ | refine zF0 ?_ | refine zX0 ?_ | refine z1 ?_ | refine z2 ?_ | refine z3 ?_ | refine z4 ?_ | refine z5 ?_ | refine z6 ?_ | refine z7 ?_ | refine z8 ?_ | refine y1 ?_ | refine y2 ?_ | refine y3 ?_ | refine y4 ?_ | refine y5 ?_ | refine y6 ?_ | refine y7 ?_ | refine y8 ?_ | refine Rt.p (fun _ => ?_) fun _ => ?_)
    | ((with_reducible apply w_ixM); (focus exact rfl); (focus exact rfl); case' hk => intro y hy) | ((with_reducible (first | apply w_val | apply q_ends)); (focus exact rfl)))
  refine w_loopK [0, 1] [] (fun x : List Int × List Int × List Int => a = x.1 ++ x.2.1 ∧ b = x.1 ++ x.2.2 ∧ befF a b = befF x.2.1 x.2.2) (fun x => x.2.1.length) (fun x => [(5, .int .i64 x.1.length)]) (fun _ => []) ([], a, b) ⟨rfl, rfl, rfl⟩ ⟨rfl, trivial⟩ trivial ?_
  rintro ⟨pre, pa, pb⟩ ⟨ha, hb, hf⟩ e σ
  dsimp only at ha hb hf ⊢
  have hlen := congrArg List.length ha
  have hlen2 := congrArg List.length hb
  simp only [List.length_append] at hlen hlen2
  cases pa with
  | nil =>
    simp only [List.length_nil] at hlen
    repeat' (first
      | with_reducible (first | refine Rd.p ?_ | refine w_alt ?_ ?_ | refine zE ?_ | refine zE0 ?_)
      | with_reducible (first | refine zI fun y hy => ?_ | refine zL ?_ | refine zS ?_ | refine zA fun _ => ?_ | refine zV ?_ | refine zC ?_ | refine zG ?_ | refine zU ?_ | refine zG0 ?_ | refine zU0 ?_ | refine zF ?_)
      | with_reducible (first | refine zX ?_ | refine zD fun _ => ?_ | refine zD0 ?_ | refine zN ?_ | refine zF0 ?_ | refine zX0 ?_ | refine z1 ?_ | refine z2 ?_ | refine z3 ?_ | refine z4 ?_ | refine z5 ?_ | refine z6 ?_ | refine z7 ?_ | refine z8 ?_ | refine y1 ?_ | refine y2 ?_ | refine y3 ?_ | refine y4 ?_ | refine y5 ?_ | refine y6 ?_ | refine y7 ?_ | refine y8 ?_ | refine Rt.p (fun _ => ?_) fun _ => ?_)
      | ((with_reducible apply w_ixM); (focus exact rfl); (focus exact rfl); case' hk => intro y hy) | ((with_reducible (first | apply w_val | apply q_ends)); (focus exact rfl)))
    rw [hf]; rfl
  | cons x pa =>
    cases pb with
    | nil => simp at hlen hlen2; omega
    | cons y pb =>
      simp only [List.length_cons] at hlen hlen2
      rw [befF] at hf
      repeat' (first
        | with_reducible (first | refine Rd.p ?_ | refine w_alt ?_ ?_ | refine zE ?_ | refine zE0 ?_)
        | (first | refine w_ixP ha rfl rfl ?_ | refine w_ixP hb rfl rfl ?_)
        | with_reducible (first | refine zI fun y hy => ?_ | refine zL ?_ | refine zS ?_ | refine zA fun _ => ?_ | refine zV ?_ | refine zC ?_ | refine zG ?_ | refine zU ?_ | refine zG0 ?_ | refine zU0 ?_ | refine zF ?_)
        | with_reducible (first | refine zX ?_ | refine zD fun _ => ?_ | refine zD0 ?_ | refine zN ?_ | refine zF0 ?_ | refine zX0 ?_ | refine z1 ?_ | refine z2 ?_ | refine z3 ?_ | refine z4 ?_ | refine z5 ?_ | refine z6 ?_ | refine z7 ?_ | refine z8 ?_ | refine y1 ?_ | refine y2 ?_ | refine y3 ?_ | refine y4 ?_ | refine y5 ?_ | refine y6 ?_ | refine y7 ?_ | refine y8 ?_ | refine Rt.p (fun _ => ?_) fun _ => ?_)
        | ((with_reducible apply w_ixM); (focus exact rfl); (focus exact rfl); case' hk => intro y hy) | ((with_reducible (first | apply w_val | apply q_ends)); (focus exact rfl)))
      · rename_i h2
        rw [hf, if_neg h2]; rfl
      · rename_i h2
        obtain rfl := Decidable.not_not.1 h2
        rw [if_pos rfl] at hf
        refine zQ (pre ++ [x], pa, pb) ?_ ?_
        · exact ⟨by rw [ha]; simp, by rw [hb]; simp, hf⟩
        · simp
end Go.Abs
