/- A part of the proofs of the laws of this seat: contracts of the functions that they reach, each proved of the program's form in Lean. No condition beyond those that each contract names. -/
import Derived.Test.YtmekfgjlcaonjaaC8
import Derived.Test.YtmekfgjlcaonjaaC7
import Derived.Test.YtmekfgjlcaonjaaC5
import Derived.Test.YtmekfgjlcaonjaaC4
import Derived.Test.YtmekfgjlcaonjaaC2
import Derived.Test.YtmekfgjlcaonjaaC1
import Derived.Test.YtmekfgjlcaonjaaB
set_option linter.unusedVariables false
set_option linter.unusedSimpArgs false
set_option maxRecDepth 20000
set_option maxHeartbeats 4000000
namespace Go.Abs
open Go.Proofs
/-- (aloeswood/store.met).again -/
def ir99 : IFn :=
  ⟨30, [(6, none)], (.seq (.ops [⟨(some 6), none, (.mov (.k .nsl))⟩])
  (.seq (.ops [⟨(some 7), none, (.mov (.k .nsl))⟩])
  (.seq (.seq (.ops [⟨(some 10), none, (.mov (.t 1))⟩,
    ⟨(some 11), none, (.len false (.t 10))⟩,
    ⟨(some 12), none, (.mov (.k (.int .i64 0)))⟩])
  (.blk 0 (.loop (.seq (.ops [⟨(some 13), none, (.bin .lss (.t 12) (.t 11))⟩])
      (.seq (.cnd (.t 13)
        .skip
        (.exit 0))
      (.seq (.blk 1 (.seq (.ops [⟨(some 14), none, (.ixA 1 (.t 10) (.t 12))⟩,
          ⟨(some 15), none, (.ld 1 false (.t 14))⟩,
          ⟨(some 9), none, (.mov (.t 15))⟩])
        (.seq (.ops [⟨(some 16), none, (.mov (.t 0))⟩,
          ⟨(some 17), none, (.mov (.t 9))⟩,
          ⟨(some 18), none, (.mov (.t 2))⟩,
          ⟨(some 19), none, (.bld [(.int .i64 0), (.int .i64 0)] [(0, 1, (.t 17)), (1, 1, (.t 18))])⟩,
          ⟨(some 20), none, (.mlk (.flat [.i, .i]) (.int .i64 0) false (.t 16) (.t 19))⟩,
          ⟨(some 21), none, (.bin .gtr (.t 20) (.k (.int .i64 0)))⟩])
        (.cnd (.t 21)
          (.ops [⟨(some 22), none, (.mov (.t 7))⟩,
            ⟨(some 23), none, (.mov (.t 9))⟩,
            ⟨(some 24), none, (.bsl 1 [[(.int .i64 0)]] [(0, (.t 23))])⟩,
            ⟨(some 25), none, (.apm 1 8 (.t 22) (.t 24) 7)⟩,
            ⟨(some 7), none, (.mov (.t 25))⟩])
          .skip))))
      (.ops [⟨(some 26), none, (.bin .add (.t 12) (.k (.int .i64 1)))⟩,
        ⟨(some 12), none, (.mov (.t 26))⟩])))))))
  (.seq (.ops [⟨(some 27), none, (.mov (.t 7))⟩,
    ⟨(some 28), none, (.callF 88 [(.t 27)])⟩])
  (.seq (.seq (.frz (.t 7))
  (.ops [⟨(some 29), none, (.mov (.t 7))⟩,
    ⟨(some 6), none, (.mov (.t 29))⟩]))
  .ret)))))⟩
def hint99 (P : Program) : Hint := { site := [(25, 7)], nils := [], frz := [(29, 7)], mve := [], wr := [25] }
/-- Those of some guests who met a combination. -/
def againL (kv : List ((Int × Int) × Int)) (n : Int) (gs : List Int) : List Int := gs.filter fun g => decide (0 < mget kv (g, n))
theorem again_s (kv : List ((Int × Int) × Int)) (g : Nat) (gs : List Int) (n : Int) (hl : gs.length ≤ 12) :
    RawC Try.prog 99 [.map 1000 g, .slc 1 (iR gs) .non, .int .i64 n] (sg [(1000, (g, .row [.mpv (kvK kv) (kvV kv)]))])
      (SR (fun ys v => ∃ a, v = a ∧ NowV a ys ∧ SrtP (againL kv n gs) ys) (fun _ => [(1000, (g, .row [.mpv (kvK kv) (kvV kv)]))])) := by
  refine RawC.walk (H := hint99 Try.prog) ir99 Try.func99 rfl (by kernel_rfl) rfl ?_
  unfold ir99
  repeat' (first
    | with_reducible (first | refine Rd.p ?_ | refine w_alt ?_ ?_ | refine zE ?_ | refine zE0 ?_)
    | with_reducible (first | refine zI fun y hy => ?_ | refine zL ?_ | refine zS ?_ | refine zA fun _ => ?_ | refine zV ?_ | refine zC ?_ | refine zG ?_ | refine zU ?_ | refine zG0 ?_ | refine zU0 ?_ | refine zF ?_)
    | with_reducible (first | refine zX ?_ | refine zD fun _ => ?_ | refine zD0 ?_ | refine zN ?_ | refine zF0 ?_ | refine zX0 ?_ | refine z1 ?_ | refine z2 ?_ | refine z3 ?_ | refine z4 ?_ | refine z5 ?_ | refine z6 ?_ | refine z7 ?_ | refine z8 ?_ | refine y1 ?_ | refine y2 ?_ | refine y3 ?_ | refine y4 ?_ | refine y5 ?_ | refine y6 ?_ | refine y7 ?_ | refine y8 ?_ | refine Rt.p (fun _ => ?_) fun _ => ?_)
    | ((with_reducible apply w_ixM); (focus exact rfl); (focus exact rfl); case' hk => intro y hy) | ((with_reducible (first | apply w_val | apply q_ends)); (focus exact rfl)))
  refine w_loopK [0, 2, 10, 11] [1000] (fun x : List Int × List Int × List Int × Nat => gs = x.1 ++ x.2.1 ∧ x.2.2.1 = againL kv n x.1) (fun x => x.2.1.length) (fun x => [(12, .int .i64 x.1.length), (7, accV x.2.2.1 x.2.2.2)]) (fun x => accS x.2.2.1 x.2.2.2) ([], gs, [], 0) ⟨rfl, rfl⟩ ⟨rfl, rfl, trivial⟩ trivial ?_
  rintro ⟨pre, post, acc, g7⟩ ⟨hp, hacc⟩ e σ
  dsimp only at hp hacc ⊢
  have hlen := congrArg List.length hp
  rw [List.length_append] at hlen
  have hal : acc.length ≤ pre.length := by rw [hacc]; exact List.length_filter_le _ _
  cases post with
  | nil =>
    rw [List.append_nil] at hp
    subst hp
    simp only [List.length_nil] at hlen
    cases acc with
    | nil =>
      repeat' (first
        | with_reducible (first | refine Rd.p ?_ | refine w_alt ?_ ?_ | refine zE ?_ | refine zE0 ?_)
        | with_reducible (first | refine zI fun y hy => ?_ | refine zL ?_ | refine zS ?_ | refine zA fun _ => ?_ | refine zV ?_ | refine zC ?_ | refine zG ?_ | refine zU ?_ | refine zG0 ?_ | refine zU0 ?_ | refine zF ?_)
        | ((with_reducible refine acall_id ?_); refine ACall.val sort0_s rfl rfl ?_)
        | (refine w_frzN rfl ?_)
        | with_reducible (first | refine zX ?_ | refine zD fun _ => ?_ | refine zD0 ?_ | refine zN ?_ | refine zF0 ?_ | refine zX0 ?_ | refine z1 ?_ | refine z2 ?_ | refine z3 ?_ | refine z4 ?_ | refine z5 ?_ | refine z6 ?_ | refine z7 ?_ | refine z8 ?_ | refine y1 ?_ | refine y2 ?_ | refine y3 ?_ | refine y4 ?_ | refine y5 ?_ | refine y6 ?_ | refine y7 ?_ | refine y8 ?_ | refine Rt.p (fun _ => ?_) fun _ => ?_)
        | ((with_reducible apply w_ixM); (focus exact rfl); (focus exact rfl); case' hk => intro y hy) | ((with_reducible (first | apply w_val | apply q_ends)); (focus exact rfl)))
      exact ⟨[], ⟨_, rfl, .inl ⟨rfl, rfl⟩, by rw [← hacc]; exact ⟨.refl _, .nil⟩⟩, rfl, trivial⟩
    | cons a r =>
      repeat' (first
        | with_reducible (first | refine Rd.p ?_ | refine w_alt ?_ ?_ | refine zE ?_ | refine zE0 ?_)
        | with_reducible (first | refine zI fun y hy => ?_ | refine zL ?_ | refine zS ?_ | refine zA fun _ => ?_ | refine zV ?_ | refine zC ?_ | refine zG ?_ | refine zU ?_ | refine zG0 ?_ | refine zU0 ?_ | refine zF ?_)
        | ((with_reducible refine acall_id ?_); (refine sort_call (a :: r) _ (by simp at hal ⊢; omega) rfl rfl ?_; intro ys hys))
        | (refine w_frzI rfl rfl (by rw [hys.1.length_eq]) ?_)
        | with_reducible (first | refine zX ?_ | refine zD fun _ => ?_ | refine zD0 ?_ | refine zN ?_ | refine zF0 ?_ | refine zX0 ?_ | refine z1 ?_ | refine z2 ?_ | refine z3 ?_ | refine z4 ?_ | refine z5 ?_ | refine z6 ?_ | refine z7 ?_ | refine z8 ?_ | refine y1 ?_ | refine y2 ?_ | refine y3 ?_ | refine y4 ?_ | refine y5 ?_ | refine y6 ?_ | refine y7 ?_ | refine y8 ?_ | refine Rt.p (fun _ => ?_) fun _ => ?_)
        | ((with_reducible apply w_ixM); (focus exact rfl); (focus exact rfl); case' hk => intro y hy) | ((with_reducible (first | apply w_val | apply q_ends)); (focus exact rfl)))
      refine ⟨ys, ⟨_, rfl, .inr ⟨rfl, fun h => ?_⟩, by rw [← hacc]; exact hys⟩, rfl, trivial⟩
      have := hys.1.length_eq; rw [h] at this; simp at this
  | cons a post =>
    simp only [List.length_cons] at hlen
    have hsnoc : againL kv n (pre ++ [a]) = if 0 < mget kv (a, n) then acc ++ [a] else acc := by
      unfold againL at *
      rw [List.filter_append, ← hacc]
      by_cases h : 0 < mget kv (a, n) <;> simp [h]
    by_cases hpos : 0 < mget kv (a, n)
    · rw [if_pos hpos] at hsnoc
      cases acc with
      | nil =>
        repeat' (first
          | with_reducible (first | refine Rd.p ?_ | refine w_alt ?_ ?_ | refine zE ?_ | refine zE0 ?_)
          | (refine w_ixP (pre := pre) (y := a) (post := post) hp rfl rfl ?_)
          | (refine w_mlkP rfl rfl rfl ?_)
          | (refine w_apmN rfl rfl ?_; intro _)
          | with_reducible (first | refine zI fun y hy => ?_ | refine zL ?_ | refine zS ?_ | refine zA fun _ => ?_ | refine zV ?_ | refine zC ?_ | refine zG ?_ | refine zU ?_ | refine zG0 ?_ | refine zU0 ?_ | refine zF ?_)
          | with_reducible (first | refine zX ?_ | refine zD fun _ => ?_ | refine zD0 ?_ | refine zN ?_ | refine zF0 ?_ | refine zX0 ?_ | refine z1 ?_ | refine z2 ?_ | refine z3 ?_ | refine z4 ?_ | refine z5 ?_ | refine z6 ?_ | refine z7 ?_ | refine z8 ?_ | refine y1 ?_ | refine y2 ?_ | refine y3 ?_ | refine y4 ?_ | refine y5 ?_ | refine y6 ?_ | refine y7 ?_ | refine y8 ?_ | refine Rt.p (fun _ => ?_) fun _ => ?_)
          | ((with_reducible apply w_ixM); (focus exact rfl); (focus exact rfl); case' hk => intro y hy) | ((with_reducible (first | apply w_val | apply q_ends)); (focus exact rfl)))
        refine q_loop (pre ++ [a], post, [a], _) ?_ ?_ (by repeat' (first | exact slots_nil | apply slots_cons | rfl | (rw [map_snoc]; rfl) | (rw [len_snoc]; rfl) | (rw [hS]; rfl) | (rw [hS, map_snoc]; rfl) | (refine int_eq ?_; (try dsimp only); omega) | (refine congrArg AV.bool ?_; simp_all; done))) (by exact ⟨rfl, trivial⟩) (by repeat' (first | exact kept_nil | apply kept_cons | rfl)) (by repeat' (first | exact kept_nil | apply kept_cons | rfl))
        · exact ⟨by rw [hp]; simp, by rw [hsnoc]; rfl⟩
        · simp
      | cons a0 r =>
        simp only [List.length_cons] at hal
        have hal2 : (a0 :: r ++ [a]).length = (a0 :: r).length + 1 := by simp
        repeat' (first
          | with_reducible (first | refine Rd.p ?_ | refine w_alt ?_ ?_ | refine zE ?_ | refine zE0 ?_)
          | (refine w_ixP (pre := pre) (y := a) (post := post) hp rfl rfl ?_)
          | (refine w_mlkP rfl rfl rfl ?_)
          | (refine w_apmI rfl rfl rfl (by simp; omega) rfl ?_; intro _)
          | with_reducible (first | refine zI fun y hy => ?_ | refine zL ?_ | refine zS ?_ | refine zA fun _ => ?_ | refine zV ?_ | refine zC ?_ | refine zG ?_ | refine zU ?_ | refine zG0 ?_ | refine zU0 ?_ | refine zF ?_)
          | with_reducible (first | refine zX ?_ | refine zD fun _ => ?_ | refine zD0 ?_ | refine zN ?_ | refine zF0 ?_ | refine zX0 ?_ | refine z1 ?_ | refine z2 ?_ | refine z3 ?_ | refine z4 ?_ | refine z5 ?_ | refine z6 ?_ | refine z7 ?_ | refine z8 ?_ | refine y1 ?_ | refine y2 ?_ | refine y3 ?_ | refine y4 ?_ | refine y5 ?_ | refine y6 ?_ | refine y7 ?_ | refine y8 ?_ | refine Rt.p (fun _ => ?_) fun _ => ?_)
          | ((with_reducible apply w_ixM); (focus exact rfl); (focus exact rfl); case' hk => intro y hy) | ((with_reducible (first | apply w_val | apply q_ends)); (focus exact rfl)))
        refine q_loop (pre ++ [a], post, a0 :: (r ++ [a]), _) ?_ ?_ (slots_cons (by show AV.int .i64 _ = AV.int .i64 _; refine int_eq ?_; simp) (slots_cons ?_ slots_nil)) (by exact ⟨rfl, trivial⟩) (by repeat' (first | exact kept_nil | apply kept_cons | rfl)) (by repeat' (first | exact kept_nil | apply kept_cons | rfl))
        · exact ⟨by rw [hp]; simp, by rw [hsnoc]; rfl⟩
        · simp
        · show AV.msl 7 _ ((a0 :: r).length + 1) 1 = AV.msl 7 _ (a0 :: (r ++ [a])).length 1
          rw [← hal2]; rfl
    · rw [if_neg hpos] at hsnoc
      cases acc with
      | nil =>
        repeat' (first
          | with_reducible (first | refine Rd.p ?_ | refine w_alt ?_ ?_ | refine zE ?_ | refine zE0 ?_)
          | (refine w_ixP (pre := pre) (y := a) (post := post) hp rfl rfl ?_)
          | (refine w_mlkP rfl rfl rfl ?_)
          | with_reducible (first | refine zI fun y hy => ?_ | refine zL ?_ | refine zS ?_ | refine zA fun _ => ?_ | refine zV ?_ | refine zC ?_ | refine zG ?_ | refine zU ?_ | refine zG0 ?_ | refine zU0 ?_ | refine zF ?_)
          | with_reducible (first | refine zX ?_ | refine zD fun _ => ?_ | refine zD0 ?_ | refine zN ?_ | refine zF0 ?_ | refine zX0 ?_ | refine z1 ?_ | refine z2 ?_ | refine z3 ?_ | refine z4 ?_ | refine z5 ?_ | refine z6 ?_ | refine z7 ?_ | refine z8 ?_ | refine y1 ?_ | refine y2 ?_ | refine y3 ?_ | refine y4 ?_ | refine y5 ?_ | refine y6 ?_ | refine y7 ?_ | refine y8 ?_ | refine Rt.p (fun _ => ?_) fun _ => ?_)
          | ((with_reducible apply w_ixM); (focus exact rfl); (focus exact rfl); case' hk => intro y hy) | ((with_reducible (first | apply w_val | apply q_ends)); (focus exact rfl)))
        refine q_loop (pre ++ [a], post, [], g7) ?_ ?_ (slots_cons (by show AV.int .i64 _ = AV.int .i64 _; refine int_eq ?_; simp) (slots_cons rfl slots_nil)) trivial (by repeat' (first | exact kept_nil | apply kept_cons | rfl)) (by repeat' (first | exact kept_nil | apply kept_cons | rfl))
        · exact ⟨by rw [hp]; simp, hsnoc.symm⟩
        · simp
      | cons a0 r =>
        repeat' (first
          | with_reducible (first | refine Rd.p ?_ | refine w_alt ?_ ?_ | refine zE ?_ | refine zE0 ?_)
          | (refine w_ixP (pre := pre) (y := a) (post := post) hp rfl rfl ?_)
          | (refine w_mlkP rfl rfl rfl ?_)
          | with_reducible (first | refine zI fun y hy => ?_ | refine zL ?_ | refine zS ?_ | refine zA fun _ => ?_ | refine zV ?_ | refine zC ?_ | refine zG ?_ | refine zU ?_ | refine zG0 ?_ | refine zU0 ?_ | refine zF ?_)
          | with_reducible (first | refine zX ?_ | refine zD fun _ => ?_ | refine zD0 ?_ | refine zN ?_ | refine zF0 ?_ | refine zX0 ?_ | refine z1 ?_ | refine z2 ?_ | refine z3 ?_ | refine z4 ?_ | refine z5 ?_ | refine z6 ?_ | refine z7 ?_ | refine z8 ?_ | refine y1 ?_ | refine y2 ?_ | refine y3 ?_ | refine y4 ?_ | refine y5 ?_ | refine y6 ?_ | refine y7 ?_ | refine y8 ?_ | refine Rt.p (fun _ => ?_) fun _ => ?_)
          | ((with_reducible apply w_ixM); (focus exact rfl); (focus exact rfl); case' hk => intro y hy) | ((with_reducible (first | apply w_val | apply q_ends)); (focus exact rfl)))
        refine q_loop (pre ++ [a], post, a0 :: r, g7) ?_ ?_ (slots_cons (by show AV.int .i64 _ = AV.int .i64 _; refine int_eq ?_; simp) (slots_cons rfl slots_nil)) (by exact ⟨rfl, trivial⟩) (by repeat' (first | exact kept_nil | apply kept_cons | rfl)) (by repeat' (first | exact kept_nil | apply kept_cons | rfl))
        · exact ⟨by rw [hp]; simp, hsnoc.symm⟩
        · simp
theorem again_call {σ : Sig} {d j : Nat} {Q : AV → Sig → Prop} (kv : List ((Int × Int) × Int)) (g : Nat) (gs : List Int) (n : Int) (hl : gs.length ≤ 12) (hσ : σ j = (g, .row [.mpv (kvK kv) (kvV kv)])) (hj : renOK [(1000, j)] = true)
    (hQ : ∀ ys a, NowV a ys → SrtP (againL kv n gs) ys → Q a (upd σ j (g, .row [.mpv (kvK kv) (kvV kv)]))) :
    ACall Try.prog 99 [.map j g, .slc 1 (iR gs) .non, .int .i64 n] σ d Q := by
  refine ACall.liftS (again_s kv g gs n hl) [(1000, j)] none hj ?_ ?_ ⟨⟨_, by rw [hσ]⟩, trivial⟩ (fun _ => rfl) ?_
  · show _ = ren _ _ :: _
    have : lk (flipL [(1000, j)]) j = some 1000 := by simp [flipL, lk]
    simp only [ren, this]; rfl
  · show _ = [(1000, ((σ j).1, renR _ (σ j).2))]
    rw [hσ]; rfl
  · rintro ys av ⟨a, rfl, hNV, hs⟩
    have := hQ ys av hNV hs
    rcases hNV with ⟨rfl, _⟩ | ⟨rfl, _⟩
    · exact this
    · exact this
end Go.Abs
