/- A part of the proofs of the laws of this seat: contracts of the functions that they reach, each proved of the program's form in Lean. No condition beyond those that each contract names. -/
import Derived.Test.YtmekfgjlcaonjaaC6
import Derived.Test.YtmekfgjlcaonjaaC5
import Derived.Test.YtmekfgjlcaonjaaC4
import Derived.Test.YtmekfgjlcaonjaaC3
import Derived.Test.YtmekfgjlcaonjaaC2
import Derived.Test.YtmekfgjlcaonjaaC1
import Derived.Test.YtmekfgjlcaonjaaB
import Derived.Test.YtmekfgjlcaonjaaD8
set_option linter.unusedVariables false
set_option linter.unusedSimpArgs false
set_option maxRecDepth 20000
set_option maxHeartbeats 4000000
namespace Go.Abs
open Go.Proofs
/-- aloeswood/aloeswoodlaw09.holderOn -/
def ir85 : IFn :=
  ⟨39, [(8, none)], (.seq (.ops [⟨(some 4), none, (.box 4 (.t 0))⟩,
    ⟨(some 8), none, (.mov (.k (.int .i64 0)))⟩])
  (.seq (.ops [⟨(some 9), none, (.mov (.k (.int .i64 (-1))))⟩])
  (.seq (.seq (.ops [⟨(some 10), none, (.mov (.k (.int .i64 0)))⟩])
  (.blk 0 (.loop (.seq (.seq (.ops [⟨(some 11), none, (.mov (.t 10))⟩,
        ⟨(some 12), none, (.mov (.t 2))⟩,
        ⟨(some 13), none, (.len false (.t 12))⟩,
        ⟨(some 14), none, (.bin .lss (.t 11) (.t 13))⟩])
      (.cnd (.t 14)
        .skip
        (.exit 0)))
      (.seq (.blk 1 (.seq (.seq (.ops [⟨(some 17), none, (.mov (.t 2))⟩,
          ⟨(some 18), none, (.mov (.t 10))⟩,
          ⟨(some 19), none, (.ixA 1 (.t 17) (.t 18))⟩,
          ⟨(some 20), none, (.ld 1 false (.t 19))⟩,
          ⟨(some 21), none, (.mov (.t 3))⟩,
          ⟨(some 22), none, (.bin .gtr (.t 20) (.t 21))⟩])
        (.cnd (.t 22)
          (.seq (.ops [⟨(some 23), none, (.mov (.t 9))⟩,
            ⟨(some 8), none, (.mov (.t 23))⟩])
          .ret)
          .skip))
        (.seq (.ops [⟨(some 24), none, (.flA 0 (.t 4))⟩,
          ⟨(some 25), none, (.ld 1 false (.t 24))⟩,
          ⟨(some 9), none, (.mov (.t 25))⟩])
        (.seq (.ops [⟨(some 26), none, (.mov (.t 10))⟩,
          ⟨(some 27), none, (.bin .gtr (.t 26) (.k (.int .i64 0)))⟩])
        (.cnd (.t 27)
          (.ops [⟨(some 28), none, (.flA 3 (.t 4))⟩,
            ⟨(some 29), none, (.ld 1 false (.t 28))⟩,
            ⟨(some 30), none, (.mov (.t 1))⟩,
            ⟨(some 31), none, (.mov (.t 10))⟩,
            ⟨(some 32), none, (.bin .sub (.t 31) (.k (.int .i64 1)))⟩,
            ⟨(some 33), none, (.ixA 1 (.t 30) (.t 32))⟩,
            ⟨(some 34), none, (.ld 1 false (.t 33))⟩,
            ⟨(some 35), none, (.ixA 4 (.t 29) (.t 34))⟩,
            ⟨(some 36), none, (.flA 1 (.t 35))⟩,
            ⟨(some 37), none, (.ld 1 false (.t 36))⟩,
            ⟨(some 9), none, (.mov (.t 37))⟩])
          .skip)))))
      (.ops [⟨(some 15), none, (.mov (.t 10))⟩,
        ⟨(some 16), none, (.bin .add (.t 15) (.k (.int .i64 1)))⟩,
        ⟨(some 10), none, (.mov (.t 16))⟩]))))))
  (.seq (.ops [⟨(some 38), none, (.mov (.t 9))⟩,
    ⟨(some 8), none, (.mov (.t 38))⟩])
  .ret))))⟩
def hint85 (P : Program) : Hint := {}
def hoR (c : Chn) (o : List Int) : Int → Nat → List Int → Int → Int
  | h, _, [], _ => h
  | h, i, d :: r, day => if day < d then h else hoR c o (whoAt c o i) (i + 1) r day
theorem holderOn_c (c : Chn) (o ds : List Int) (day : Int) (hb : ∀ i ∈ o, 0 ≤ i ∧ i < c.ls.length) (hc : c.ls.length < 2 ^ 62) (hl : o.length < 2 ^ 60) (hd : ds.length ≤ o.length + 1) : Fn0 Try.prog 85 [cA c, .slc 1 (iR o) .non, .slc 1 (iR ds) .non, .int .i64 day] (fun v => v = .int .i64 (hoR c o (-1) 0 ds day)) := by
  refine RawC.walk (H := hint85 Try.prog) ir85 Try.func85 rfl rfl rfl ?_
  unfold ir85
  repeat' (first
    | with_reducible (first | refine Rd.p ?_ | refine w_alt ?_ ?_ | refine zE ?_ | refine zE0 ?_)
    | with_reducible (first | refine zI fun y hy => ?_ | refine zL ?_ | refine zS ?_ | refine zA fun _ => ?_ | refine zV ?_ | refine zC ?_ | refine zG ?_ | refine zU ?_ | refine zG0 ?_ | refine zU0 ?_ | refine zF ?_)
    | with_reducible (first | refine zX ?_ | refine zD fun _ => ?_ | refine zD0 ?_ | refine zN ?_ | refine zF0 ?_ | refine zX0 ?_ | refine z1 ?_ | refine z2 ?_ | refine z3 ?_ | refine z4 ?_ | refine z5 ?_ | refine z6 ?_ | refine z7 ?_ | refine z8 ?_ | refine y1 ?_ | refine y2 ?_ | refine y3 ?_ | refine y4 ?_ | refine y5 ?_ | refine y6 ?_ | refine y7 ?_ | refine y8 ?_ | refine Rt.p (fun _ => ?_) fun _ => ?_)
    | ((with_reducible apply w_ixM); (focus exact rfl); (focus exact rfl); case' hk => intro y hy) | ((with_reducible (first | apply w_val | apply q_ends)); (focus exact rfl)))
  obtain ⟨B, hB⟩ : ∃ B, hoR c o (-1) 0 ds day = B := ⟨_, rfl⟩
  rw [hB]
  refine w_loopK [1, 2, 3, 4] [4] (fun x : List Int × List Int × Int => ds = x.1 ++ x.2.1 ∧ B = hoR c o x.2.2 x.1.length x.2.1 day) (fun x => x.2.1.length) (fun x => [(10, .int .i64 x.1.length), (9, .int .i64 x.2.2)]) (fun _ => []) ([], ds, -1) ⟨rfl, hB.symm⟩ ⟨rfl, rfl, trivial⟩ trivial ?_
  rintro ⟨pre, post, h⟩ ⟨hpp, hlk⟩ e σ
  dsimp only at hpp hlk ⊢
  have hlen := congrArg List.length hpp
  rw [List.length_append] at hlen
  cases post with
  | nil =>
    simp only [List.length_nil] at hlen
    rw [hlk]
    repeat' (first
      | with_reducible (first | refine Rd.p ?_ | refine w_alt ?_ ?_ | refine zE ?_ | refine zE0 ?_)
      | with_reducible (first | refine zI fun y hy => ?_ | refine zL ?_ | refine zS ?_ | refine zA fun _ => ?_ | refine zV ?_ | refine zC ?_ | refine zG ?_ | refine zU ?_ | refine zG0 ?_ | refine zU0 ?_ | refine zF ?_)
      | with_reducible (first | refine zX ?_ | refine zD fun _ => ?_ | refine zD0 ?_ | refine zN ?_ | refine zF0 ?_ | refine zX0 ?_ | refine z1 ?_ | refine z2 ?_ | refine z3 ?_ | refine z4 ?_ | refine z5 ?_ | refine z6 ?_ | refine z7 ?_ | refine z8 ?_ | refine y1 ?_ | refine y2 ?_ | refine y3 ?_ | refine y4 ?_ | refine y5 ?_ | refine y6 ?_ | refine y7 ?_ | refine y8 ?_ | refine Rt.p (fun _ => ?_) fun _ => ?_)
      | ((with_reducible apply w_ixM); (focus exact rfl); (focus exact rfl); case' hk => intro y hy) | ((with_reducible (first | apply w_val | apply q_ends)); (focus exact rfl)))
    all_goals first
      | (exfalso; omega)
      | rfl
  | cons y post =>
    simp only [List.length_cons] at hlen
    have hgy : ds[pre.length]? = some y := by rw [hpp]; simp
    have hs : B = if day < y then h else hoR c o (whoAt c o pre.length) (pre.length + 1) post day := hlk
    by_cases hy : day < y
    · rw [if_pos hy] at hs
      rw [hs]
      clear hlk hB
      repeat' (first
        | with_reducible (first | refine Rd.p ?_ | refine w_alt ?_ ?_ | refine zE ?_ | refine zE0 ?_)
        | (refine w_ixE hgy rfl rfl ?_)
        | with_reducible (first | refine zI fun y hy => ?_ | refine zL ?_ | refine zS ?_ | refine zA fun _ => ?_ | refine zV ?_ | refine zC ?_ | refine zG ?_ | refine zU ?_ | refine zG0 ?_ | refine zU0 ?_ | refine zF ?_)
        | with_reducible (first | refine zX ?_ | refine zD fun _ => ?_ | refine zD0 ?_ | refine zN ?_ | refine zF0 ?_ | refine zX0 ?_ | refine z1 ?_ | refine z2 ?_ | refine z3 ?_ | refine z4 ?_ | refine z5 ?_ | refine z6 ?_ | refine z7 ?_ | refine z8 ?_ | refine y1 ?_ | refine y2 ?_ | refine y3 ?_ | refine y4 ?_ | refine y5 ?_ | refine y6 ?_ | refine y7 ?_ | refine y8 ?_ | refine Rt.p (fun _ => ?_) fun _ => ?_)
        | ((with_reducible apply w_ixM); (focus exact rfl); (focus exact rfl); case' hk => intro y hy) | ((with_reducible (first | apply w_val | apply q_ends)); (focus exact rfl)))
      all_goals first
        | (exfalso; omega)
        | rfl
    rw [if_neg hy] at hs
    have hq : B = hoR c o (whoAt c o pre.length) (pre ++ [y]).length post day := by rw [hs, List.length_append]; rfl
    by_cases hp : pre.length = 0
    · rw [hp] at hq
      have hq : B = hoR c o c.maker (pre ++ [y]).length post day := hq
      repeat' (first
        | with_reducible (first | refine Rd.p ?_ | refine w_alt ?_ ?_ | refine zE ?_ | refine zE0 ?_)
        | (refine w_ixE hgy rfl rfl ?_)
        | with_reducible (first | refine zI fun y hy => ?_ | refine zL ?_ | refine zS ?_ | refine zA fun _ => ?_ | refine zV ?_ | refine zC ?_ | refine zG ?_ | refine zU ?_ | refine zG0 ?_ | refine zU0 ?_ | refine zF ?_)
        | with_reducible (first | refine zX ?_ | refine zD fun _ => ?_ | refine zD0 ?_ | refine zN ?_ | refine zF0 ?_ | refine zX0 ?_ | refine z1 ?_ | refine z2 ?_ | refine z3 ?_ | refine z4 ?_ | refine z5 ?_ | refine z6 ?_ | refine z7 ?_ | refine z8 ?_ | refine y1 ?_ | refine y2 ?_ | refine y3 ?_ | refine y4 ?_ | refine y5 ?_ | refine y6 ?_ | refine y7 ?_ | refine y8 ?_ | refine Rt.p (fun _ => ?_) fun _ => ?_)
        | ((with_reducible apply w_ixM); (focus exact rfl); (focus exact rfl); case' hk => intro y hy) | ((with_reducible (first | apply w_val | apply q_ends)); (focus exact rfl)))
      all_goals first
        | (exfalso; omega)
        | exact q_loop (pre ++ [y], post, c.maker) ⟨by show ds = _; rw [hpp]; simp, hq⟩ (by simp) (slots_cons (by show AV.int .i64 _ = AV.int .i64 _; refine int_eq ?_; simp) (slots_cons rfl slots_nil)) trivial (by repeat' (first | exact kept_nil | apply kept_cons | rfl)) (by repeat' (first | exact kept_nil | apply kept_cons | rfl))
    obtain ⟨j, hj⟩ : ∃ j, pre.length = j + 1 := ⟨pre.length - 1, by omega⟩
    obtain ⟨z, hz⟩ : ∃ z, o[j]? = some z := ⟨_, List.getElem?_eq_getElem (by omega)⟩
    obtain ⟨hz0, hz1⟩ := hb z (List.mem_of_getElem? hz)
    obtain ⟨k, rfl⟩ : ∃ k : Nat, z = k := ⟨z.toNat, by omega⟩
    obtain ⟨g, hg⟩ : ∃ g, c.ls[k]? = some g := ⟨_, List.getElem?_eq_getElem (by omega)⟩
    have hw : whoAt c o pre.length = g.t := by
      rw [hj]
      show (lkAt c.ls (getI o j)).t = _
      rw [getI_of (xs := o) (i := (j : Int)) (y := (k : Int)) (by rw [Int.toNat_natCast]; exact hz)]
      simp [lkAt, hg]
    rw [hw] at hq
    repeat' (first
      | with_reducible (first | refine Rd.p ?_ | refine w_alt ?_ ?_ | refine zE ?_ | refine zE0 ?_)
      | (refine w_ixE hgy rfl rfl ?_)
      | (refine w_ixE hz rfl (by show AV.int .i64 _ = AV.int .i64 _; refine int_eq ?_; omega) ?_)
      | (refine w_ixE (f := Lnk.row) hg rfl rfl ?_)
      | with_reducible (first | refine zI fun y hy => ?_ | refine zL ?_ | refine zS ?_ | refine zA fun _ => ?_ | refine zV ?_ | refine zC ?_ | refine zG ?_ | refine zU ?_ | refine zG0 ?_ | refine zU0 ?_ | refine zF ?_)
      | with_reducible (first | refine zX ?_ | refine zD fun _ => ?_ | refine zD0 ?_ | refine zN ?_ | refine zF0 ?_ | refine zX0 ?_ | refine z1 ?_ | refine z2 ?_ | refine z3 ?_ | refine z4 ?_ | refine z5 ?_ | refine z6 ?_ | refine z7 ?_ | refine z8 ?_ | refine y1 ?_ | refine y2 ?_ | refine y3 ?_ | refine y4 ?_ | refine y5 ?_ | refine y6 ?_ | refine y7 ?_ | refine y8 ?_ | refine Rt.p (fun _ => ?_) fun _ => ?_)
      | ((with_reducible apply w_ixM); (focus exact rfl); (focus exact rfl); case' hk => intro y hy) | ((with_reducible (first | apply w_val | apply q_ends)); (focus exact rfl)))
    all_goals first
      | (exfalso; omega)
      | exact q_loop (pre ++ [y], post, g.t) ⟨by show ds = _; rw [hpp]; simp, hq⟩ (by simp) (slots_cons (by show AV.int .i64 _ = AV.int .i64 _; refine int_eq ?_; simp) (slots_cons rfl slots_nil)) trivial (by repeat' (first | exact kept_nil | apply kept_cons | rfl)) (by repeat' (first | exact kept_nil | apply kept_cons | rfl))
end Go.Abs
