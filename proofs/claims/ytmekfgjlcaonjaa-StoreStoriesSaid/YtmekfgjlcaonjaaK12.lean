/- A part of the proofs of the laws of this seat: contracts of the functions that they reach, each proved of the program's form in Lean. No condition beyond those that each contract names. -/
import Derived.Test.YtmekfgjlcaonjaaD1
import Derived.Test.YtmekfgjlcaonjaaC3
import Derived.Test.YtmekfgjlcaonjaaC2
import Derived.Test.YtmekfgjlcaonjaaC1
import Derived.Test.YtmekfgjlcaonjaaB
import Derived.Test.YtmekfgjlcaonjaaD8
set_option linter.unusedVariables false
set_option linter.unusedSimpArgs false
set_option maxRecDepth 20000
set_option maxHeartbeats 4000000
namespace Go.Abs
open Go.Proofs
/-- aloeswood/aloeswoodlaw09.linked -/
def ir33 : IFn :=
  ⟨35, [(4, none)], (.seq (.ops [⟨(some 2), none, (.box 4 (.t 0))⟩,
    ⟨(some 4), none, (.mov (.k (.bool false)))⟩])
  (.seq (.ops [⟨(some 7), none, (.flA 0 (.t 2))⟩,
    ⟨(some 8), none, (.ld 1 false (.t 7))⟩,
    ⟨(some 5), none, (.mov (.t 8))⟩])
  (.seq (.seq (.ops [⟨(some 6), none, (.mov (.k (.int .i64 0)))⟩])
  (.blk 0 (.loop (.seq (.seq (.ops [⟨(some 9), none, (.mov (.t 6))⟩,
        ⟨(some 10), none, (.mov (.t 1))⟩,
        ⟨(some 11), none, (.len false (.t 10))⟩,
        ⟨(some 12), none, (.bin .lss (.t 9) (.t 11))⟩])
      (.cnd (.t 12)
        .skip
        (.exit 0)))
      (.seq (.blk 1 (.seq (.seq (.ops [⟨(some 15), none, (.flA 3 (.t 2))⟩,
          ⟨(some 16), none, (.ld 1 false (.t 15))⟩,
          ⟨(some 17), none, (.mov (.t 1))⟩,
          ⟨(some 18), none, (.mov (.t 6))⟩,
          ⟨(some 19), none, (.ixA 1 (.t 17) (.t 18))⟩,
          ⟨(some 20), none, (.ld 1 false (.t 19))⟩,
          ⟨(some 21), none, (.ixA 4 (.t 16) (.t 20))⟩,
          ⟨(some 22), none, (.flA 0 (.t 21))⟩,
          ⟨(some 23), none, (.ld 1 false (.t 22))⟩,
          ⟨(some 24), none, (.mov (.t 5))⟩,
          ⟨(some 25), none, (.bin .neq (.t 23) (.t 24))⟩])
        (.cnd (.t 25)
          (.seq (.ops [⟨(some 4), none, (.mov (.k (.bool false)))⟩])
          .ret)
          .skip))
        (.ops [⟨(some 26), none, (.flA 3 (.t 2))⟩,
          ⟨(some 27), none, (.ld 1 false (.t 26))⟩,
          ⟨(some 28), none, (.mov (.t 1))⟩,
          ⟨(some 29), none, (.mov (.t 6))⟩,
          ⟨(some 30), none, (.ixA 1 (.t 28) (.t 29))⟩,
          ⟨(some 31), none, (.ld 1 false (.t 30))⟩,
          ⟨(some 32), none, (.ixA 4 (.t 27) (.t 31))⟩,
          ⟨(some 33), none, (.flA 1 (.t 32))⟩,
          ⟨(some 34), none, (.ld 1 false (.t 33))⟩,
          ⟨(some 5), none, (.mov (.t 34))⟩])))
      (.ops [⟨(some 13), none, (.mov (.t 6))⟩,
        ⟨(some 14), none, (.bin .add (.t 13) (.k (.int .i64 1)))⟩,
        ⟨(some 6), none, (.mov (.t 14))⟩]))))))
  (.seq (.ops [⟨(some 4), none, (.mov (.k (.bool true)))⟩])
  .ret))))⟩
def hint33 (P : Program) : Hint := {}
theorem lkAt_get {ls : List Lnk} {k : Nat} {y : Lnk} (h : ls[k]? = some y) : lkAt ls (k : Int) = y := by
  simp [lkAt, h]
theorem linked_c (c : Chn) (o : List Int) (hb : ∀ i ∈ o, 0 ≤ i ∧ i < c.ls.length) (hc : c.ls.length < 2 ^ 62) (hl : o.length < 2 ^ 62) : Fn0 Try.prog 33 [cA c, .slc 1 (iR o) .non] (fun v => v = .bool (linkB c.ls c.maker o)) := by
  refine RawC.walk (H := hint33 Try.prog) ir33 Try.func33 rfl rfl rfl ?_
  unfold ir33
  repeat' (first
    | with_reducible (first | refine Rd.p ?_ | refine w_alt ?_ ?_ | refine zE ?_ | refine zE0 ?_)
    | with_reducible (first | refine zI fun y hy => ?_ | refine zL ?_ | refine zS ?_ | refine zA fun _ => ?_ | refine zV ?_ | refine zC ?_ | refine zG ?_ | refine zU ?_ | refine zG0 ?_ | refine zU0 ?_ | refine zF ?_)
    | with_reducible (first | refine zX ?_ | refine zD fun _ => ?_ | refine zD0 ?_ | refine zN ?_ | refine zF0 ?_ | refine zX0 ?_ | refine z1 ?_ | refine z2 ?_ | refine z3 ?_ | refine z4 ?_ | refine z5 ?_ | refine z6 ?_ | refine z7 ?_ | refine z8 ?_ | refine y1 ?_ | refine y2 ?_ | refine y3 ?_ | refine y4 ?_ | refine y5 ?_ | refine y6 ?_ | refine y7 ?_ | refine y8 ?_ | refine Rt.p (fun _ => ?_) fun _ => ?_)
    | ((with_reducible apply w_ixM); (focus exact rfl); (focus exact rfl); case' hk => intro y hy) | ((with_reducible (first | apply w_val | apply q_ends)); (focus exact rfl)))
  obtain ⟨B, hB⟩ : ∃ B, linkB c.ls c.maker o = B := ⟨_, rfl⟩
  rw [hB]
  refine w_loopK [1, 2] [2] (fun x : List Int × List Int × Int => o = x.1 ++ x.2.1 ∧ B = linkB c.ls x.2.2 x.2.1) (fun x => x.2.1.length) (fun x => [(6, .int .i64 x.1.length), (5, .int .i64 x.2.2)]) (fun _ => []) ([], o, c.maker) ⟨rfl, hB.symm⟩ ⟨rfl, rfl, trivial⟩ trivial ?_
  rintro ⟨pre, post, h⟩ ⟨hpp, hlk⟩ e σ
  dsimp only at hpp hlk ⊢
  have hlen := congrArg List.length hpp
  rw [List.length_append] at hlen
  cases post with
  | nil =>
    simp only [List.length_nil] at hlen
    rw [hlk]
    repeat' (first
      | with_reducible (first | refine Rd.p ?_ | refine w_alt ?_ ?_ | refine zE ?_ | refine zE0 ?_)
      | with_reducible (first | refine zI fun y hy => ?_ | refine zL ?_ | refine zS ?_ | refine zA fun _ => ?_ | refine zV ?_ | refine zC ?_ | refine zG ?_ | refine zU ?_ | refine zG0 ?_ | refine zU0 ?_ | refine zF ?_)
      | with_reducible (first | refine zX ?_ | refine zD fun _ => ?_ | refine zD0 ?_ | refine zN ?_ | refine zF0 ?_ | refine zX0 ?_ | refine z1 ?_ | refine z2 ?_ | refine z3 ?_ | refine z4 ?_ | refine z5 ?_ | refine z6 ?_ | refine z7 ?_ | refine z8 ?_ | refine y1 ?_ | refine y2 ?_ | refine y3 ?_ | refine y4 ?_ | refine y5 ?_ | refine y6 ?_ | refine y7 ?_ | refine y8 ?_ | refine Rt.p (fun _ => ?_) fun _ => ?_)
      | ((with_reducible apply w_ixM); (focus exact rfl); (focus exact rfl); case' hk => intro y hy) | ((with_reducible (first | apply w_val | apply q_ends)); (focus exact rfl)))
    all_goals first
      | (exfalso; omega)
      | rfl
  | cons y post =>
    simp only [List.length_cons] at hlen
    have hgy : o[pre.length]? = some y := by rw [hpp]; simp
    obtain ⟨hy0, hy1⟩ := hb y (by rw [hpp]; simp)
    obtain ⟨k, rfl⟩ : ∃ k : Nat, y = k := ⟨y.toNat, by omega⟩
    obtain ⟨g, hg⟩ : ∃ g, c.ls[k]? = some g := ⟨_, List.getElem?_eq_getElem (by omega)⟩
    have hlg := lkAt_get hg
    by_cases hf : g.f = h
    · have hs : linkB c.ls h ((k : Int) :: post) = linkB c.ls g.t post := by
        show (decide ((lkAt c.ls k).f = h) && linkB c.ls (lkAt c.ls k).t post) = _
        rw [hlg, decide_eq_true hf, Bool.true_and]
      repeat' (first
        | with_reducible (first | refine Rd.p ?_ | refine w_alt ?_ ?_ | refine zE ?_ | refine zE0 ?_)
        | (refine w_ixE hgy rfl rfl ?_)
        | (refine w_ixE (f := Lnk.row) hg rfl rfl ?_)
        | with_reducible (first | refine zI fun y hy => ?_ | refine zL ?_ | refine zS ?_ | refine zA fun _ => ?_ | refine zV ?_ | refine zC ?_ | refine zG ?_ | refine zU ?_ | refine zG0 ?_ | refine zU0 ?_ | refine zF ?_)
        | with_reducible (first | refine zX ?_ | refine zD fun _ => ?_ | refine zD0 ?_ | refine zN ?_ | refine zF0 ?_ | refine zX0 ?_ | refine z1 ?_ | refine z2 ?_ | refine z3 ?_ | refine z4 ?_ | refine z5 ?_ | refine z6 ?_ | refine z7 ?_ | refine z8 ?_ | refine y1 ?_ | refine y2 ?_ | refine y3 ?_ | refine y4 ?_ | refine y5 ?_ | refine y6 ?_ | refine y7 ?_ | refine y8 ?_ | refine Rt.p (fun _ => ?_) fun _ => ?_)
        | ((with_reducible apply w_ixM); (focus exact rfl); (focus exact rfl); case' hk => intro y hy) | ((with_reducible (first | apply w_val | apply q_ends)); (focus exact rfl)))
      all_goals first
        | (exfalso; omega)
        | exact q_loop (pre ++ [(k : Int)], post, g.t) ⟨by show o = _; rw [hpp]; simp, by rw [hlk, hs]⟩ (by simp) (slots_cons (by show AV.int .i64 _ = AV.int .i64 _; refine int_eq ?_; simp) (slots_cons rfl slots_nil)) trivial (by repeat' (first | exact kept_nil | apply kept_cons | rfl)) (by repeat' (first | exact kept_nil | apply kept_cons | rfl))
    · have hs : linkB c.ls h ((k : Int) :: post) = false := by
        show (decide ((lkAt c.ls k).f = h) && linkB c.ls (lkAt c.ls k).t post) = _
        rw [hlg, decide_eq_false hf, Bool.false_and]
      rw [hlk, hs]
      repeat' (first
        | with_reducible (first | refine Rd.p ?_ | refine w_alt ?_ ?_ | refine zE ?_ | refine zE0 ?_)
        | (refine w_ixE hgy rfl rfl ?_)
        | (refine w_ixE (f := Lnk.row) hg rfl rfl ?_)
        | with_reducible (first | refine zI fun y hy => ?_ | refine zL ?_ | refine zS ?_ | refine zA fun _ => ?_ | refine zV ?_ | refine zC ?_ | refine zG ?_ | refine zU ?_ | refine zG0 ?_ | refine zU0 ?_ | refine zF ?_)
        | with_reducible (first | refine zX ?_ | refine zD fun _ => ?_ | refine zD0 ?_ | refine zN ?_ | refine zF0 ?_ | refine zX0 ?_ | refine z1 ?_ | refine z2 ?_ | refine z3 ?_ | refine z4 ?_ | refine z5 ?_ | refine z6 ?_ | refine z7 ?_ | refine z8 ?_ | refine y1 ?_ | refine y2 ?_ | refine y3 ?_ | refine y4 ?_ | refine y5 ?_ | refine y6 ?_ | refine y7 ?_ | refine y8 ?_ | refine Rt.p (fun _ => ?_) fun _ => ?_)
        | ((with_reducible apply w_ixM); (focus exact rfl); (focus exact rfl); case' hk => intro y hy) | ((with_reducible (first | apply w_val | apply q_ends)); (focus exact rfl)))
      all_goals first
        | (exfalso; omega)
        | rfl
end Go.Abs
