/- A part of the proofs of the laws of this seat: contracts of the functions that they reach, each proved of the program's form in Lean. No condition beyond those that each contract names. -/
import Derived.Test.YtmekfgjlcaonjaaC10
import Derived.Test.YtmekfgjlcaonjaaC2
import Derived.Test.YtmekfgjlcaonjaaC1
import Derived.Test.YtmekfgjlcaonjaaB
set_option linter.unusedVariables false
set_option linter.unusedSimpArgs false
set_option maxRecDepth 20000
set_option maxHeartbeats 4000000
namespace Go.Abs
open Go.Proofs
/-- aloeswood/aloeswoodkit.Lists -/
def ir91 : IFn :=
  ⟨20, [(2, none)], (.seq (.ops [⟨(some 2), none, (.mov (.k .nsl))⟩])
  (.seq (.ops [⟨(some 3), none, (.nil 1 3)⟩])
  (.seq (.seq (.ops [⟨(some 4), none, (.mov (.k (.int .i64 0)))⟩])
  (.blk 0 (.loop (.seq (.seq (.ops [⟨(some 5), none, (.mov (.t 4))⟩,
        ⟨(some 6), none, (.mov (.t 0))⟩,
        ⟨(some 7), none, (.len false (.t 6))⟩,
        ⟨(some 8), none, (.bin .lss (.t 5) (.t 7))⟩])
      (.cnd (.t 8)
        .skip
        (.exit 0)))
      (.seq (.blk 1 (.ops [⟨(some 11), none, (.mov (.t 3))⟩,
          ⟨(some 12), none, (.mov (.t 0))⟩,
          ⟨(some 13), none, (.mov (.t 4))⟩,
          ⟨(some 14), none, (.ixA 1 (.t 12) (.t 13))⟩,
          ⟨(some 15), none, (.ld 1 false (.t 14))⟩,
          ⟨(some 16), none, (.callF 58 [(.t 15)])⟩,
          ⟨(some 17), none, (.bsl 1 [[.nsl]] [(0, (.t 16))])⟩,
          ⟨(some 18), none, (.app 1 24 (.t 11) (.t 17) 3)⟩,
          ⟨(some 3), none, (.mov (.t 18))⟩]))
      (.ops [⟨(some 9), none, (.mov (.t 4))⟩,
        ⟨(some 10), none, (.bin .add (.t 9) (.k (.int .i64 1)))⟩,
        ⟨(some 4), none, (.mov (.t 10))⟩]))))))
  (.seq (.ops [⟨(some 19), none, (.mov (.t 3))⟩,
    ⟨(some 2), none, (.mov (.t 19))⟩])
  .ret))))⟩
def hint91 (P : Program) : Hint := { site := [(18, 3)], nils := [(3, 1)], frz := [], mve := [], wr := [] }
theorem lists9_c (l : List (List Int)) (hl : l.length < 1000000) (hs : ∀ x ∈ l, x.length < 2 ^ 40) : Fn0 Try.prog 91 [.slc 1 (llR l) .non] (fun v => v = .slc 1 (llR l) .non) := by
  refine RawC.walk (H := hint91 Try.prog) ir91 Try.func91 rfl rfl rfl ?_
  unfold ir91
  repeat' (first
    | with_reducible (first | refine Rd.p ?_ | refine w_alt ?_ ?_ | refine zE ?_ | refine zE0 ?_)
    | with_reducible (first | refine zI fun y hy => ?_ | refine zL ?_ | refine zS ?_ | refine zA fun _ => ?_ | refine zV ?_ | refine zC ?_ | refine zG ?_ | refine zU ?_ | refine zG0 ?_ | refine zU0 ?_ | refine zF ?_)
    | with_reducible (first | refine zX ?_ | refine zD fun _ => ?_ | refine zD0 ?_ | refine zN ?_ | refine zF0 ?_ | refine zX0 ?_ | refine z1 ?_ | refine z2 ?_ | refine z3 ?_ | refine z4 ?_ | refine z5 ?_ | refine z6 ?_ | refine z7 ?_ | refine z8 ?_ | refine y1 ?_ | refine y2 ?_ | refine y3 ?_ | refine y4 ?_ | refine y5 ?_ | refine y6 ?_ | refine y7 ?_ | refine y8 ?_ | refine Rt.p (fun _ => ?_) fun _ => ?_)
    | ((with_reducible apply w_ixM); (focus exact rfl); (focus exact rfl); case' hk => intro y hy) | ((with_reducible (first | apply w_val | apply q_ends)); (focus exact rfl)))
  rename_i g3
  refine w_loopK [0] [] (fun x : List (List Int) × List (List Int) × Nat => l = x.1 ++ x.2.1) (fun x => x.2.1.length) (fun x => [(4, .int .i64 x.1.length), (3, .slc 1 (llR x.1) (.own 3 x.2.2))]) (fun x => [(3, (x.2.2, .row []))]) ([], l, g3) rfl ⟨rfl, rfl, trivial⟩ (by exact ⟨rfl, trivial⟩) ?_
  rintro ⟨pre, post, g⟩ hpp e σ
  dsimp only at hpp ⊢
  have hlen := congrArg List.length hpp
  rw [List.length_append] at hlen
  cases post with
  | nil =>
    simp only [List.length_nil] at hlen
    rw [List.append_nil] at hpp
    repeat' (first
      | with_reducible (first | refine Rd.p ?_ | refine w_alt ?_ ?_ | refine zE ?_ | refine zE0 ?_)
      | with_reducible (first | refine zI fun y hy => ?_ | refine zL ?_ | refine zS ?_ | refine zA fun _ => ?_ | refine zV ?_ | refine zC ?_ | refine zG ?_ | refine zU ?_ | refine zG0 ?_ | refine zU0 ?_ | refine zF ?_)
      | with_reducible (first | refine zX ?_ | refine zD fun _ => ?_ | refine zD0 ?_ | refine zN ?_ | refine zF0 ?_ | refine zX0 ?_ | refine z1 ?_ | refine z2 ?_ | refine z3 ?_ | refine z4 ?_ | refine z5 ?_ | refine z6 ?_ | refine z7 ?_ | refine z8 ?_ | refine y1 ?_ | refine y2 ?_ | refine y3 ?_ | refine y4 ?_ | refine y5 ?_ | refine y6 ?_ | refine y7 ?_ | refine y8 ?_ | refine Rt.p (fun _ => ?_) fun _ => ?_)
      | ((with_reducible apply w_ixM); (focus exact rfl); (focus exact rfl); case' hk => intro y hy) | ((with_reducible (first | apply w_val | apply q_ends)); (focus exact rfl)))
    rw [hpp]; rfl
  | cons y post =>
    simp only [List.length_cons] at hlen
    have hy := ints_c y (hs y (by rw [hpp]; simp))
    have hsn : (pre ++ [y]).length = pre.length + 1 := by simp
    repeat' (first
      | with_reducible (first | refine Rd.p ?_ | refine w_alt ?_ ?_ | refine zE ?_ | refine zE0 ?_)
      | (refine w_ixP hpp rfl rfl ?_)
      | with_reducible (first | refine zI fun y hy => ?_ | refine zL ?_ | refine zS ?_ | refine zA fun _ => ?_ | refine zV ?_ | refine zC ?_ | refine zG ?_ | refine zU ?_ | refine zG0 ?_ | refine zU0 ?_ | refine zF ?_)
      | ((with_reducible refine acall_id ?_); refine ACall.val hy rfl rfl ?_)
      | with_reducible (first | refine zX ?_ | refine zD fun _ => ?_ | refine zD0 ?_ | refine zN ?_ | refine zF0 ?_ | refine zX0 ?_ | refine z1 ?_ | refine z2 ?_ | refine z3 ?_ | refine z4 ?_ | refine z5 ?_ | refine z6 ?_ | refine z7 ?_ | refine z8 ?_ | refine y1 ?_ | refine y2 ?_ | refine y3 ?_ | refine y4 ?_ | refine y5 ?_ | refine y6 ?_ | refine y7 ?_ | refine y8 ?_ | refine Rt.p (fun _ => ?_) fun _ => ?_)
      | ((with_reducible apply w_ixM); (focus exact rfl); (focus exact rfl); case' hk => intro y hy) | ((with_reducible (first | apply w_val | apply q_ends)); (focus exact rfl)))
    refine q_loop (pre ++ [y], post, _) (by show l = _; rw [hpp]; simp) (by simp) (slots_cons (by show AV.int .i64 _ = AV.int .i64 _; refine int_eq ?_; simp) (slots_cons rfl slots_nil)) (by exact ⟨rfl, trivial⟩) (by repeat' (first | exact kept_nil | apply kept_cons | rfl)) (by repeat' (first | exact kept_nil | apply kept_cons | rfl))
end Go.Abs
