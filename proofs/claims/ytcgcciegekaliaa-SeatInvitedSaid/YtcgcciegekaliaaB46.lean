/- A part of the proofs of the laws of this seat: contracts of the functions that they reach, each proved of the program's form in Lean. No condition beyond those that each contract names. -/
import Derived.Test.YtcgcciegekaliaaB0
import Derived.Test.YtcgcciegekaliaaB1
import Derived.Test.YtcgcciegekaliaaB36
import Derived.Test.YtcgcciegekaliaaB39
import Derived.Test.YtcgcciegekaliaaB17
set_option linter.unusedVariables false
set_option linter.unusedSimpArgs false
set_option maxRecDepth 20000
set_option maxHeartbeats 4000000
/-! ### Bonds made of numbers -/
namespace Go.Abs
open Go.Proofs
variable {P : Program} 
theorem w_ixJ {K : (Nat → AV) → Sig → Prop} {e : Nat → AV} {σ : Sig} {α : Type} {f : α → List AV} {l : List α} {y : α} {d sz : Nat} {t : Tag} {x i : IOpd} {r : List IStep} {k : IntKind} {n : Int} (hy : l[n.toNat]? = some y) (hn : 0 ≤ n) (hx : x.ev e = .slc sz (l.map f) t) (hi : i.ev e = .int k n)
    (hk : stepsW P r K (upd e d (.pin (f y))) σ) : stepsW P (⟨some d, none, .ixA sz x i⟩ :: r) K e σ :=
  w_ixM hx hi ⟨hn, by have := (List.getElem?_eq_some_iff.1 hy).1; omega⟩ fun y' hy' => by rw [hy] at hy'; cases hy'; exact hk
theorem zJ {K : (Nat → AV) → Sig → Prop} {e : Nat → AV} {σ : Sig} {α : Type} {f : α → List AV} {l : List α} {y : α} {d sz : Nat} {t : Tag} {x i : IOpd} {r : List IStep} {k : IntKind} {n : Int} (hy : l[n.toNat]? = some y) (hk : stepsW P r K (upd e d (.pin (f y))) σ) (hx : x.ev e = .slc sz (l.map f) t := by with_unfolding_all exact rfl) (hi : i.ev e = .int k n := by with_unfolding_all exact rfl) (hn : 0 ≤ n := by with_unfolding_all exact sd) : stepsW P (⟨some d, none, .ixA sz x i⟩ :: r) K e σ := w_ixJ hy hn hx hi hk
/-- aloeswood/aloeswoodkit.BondsOf -/
def ir57 : IFn :=
  ⟨43, [(6, none)], (.seq (.ops [⟨(some 6), none, (.mov (.k .nsl))⟩])
  (.seq (.ops [⟨(some 7), none, (.nil 3 7)⟩])
  (.seq (.seq (.ops [⟨(some 10), none, (.mov (.t 0))⟩,
    ⟨(some 11), none, (.mov (.t 2))⟩,
    ⟨(some 12), none, (.bin .add (.t 11) (.k (.int .i64 1)))⟩,
    ⟨(some 13), none, (.callF 19 [(.t 10), (.t 12)])⟩,
    ⟨(some 8), none, (.mov (.t 13))⟩])
  (.blk 0 (.loop (.seq (.seq (.ops [⟨(some 14), none, (.mov (.t 8))⟩,
        ⟨(some 15), none, (.bin .gtr (.t 14) (.k (.int .i64 0)))⟩,
        ⟨(some 16), none, (.mov (.t 15))⟩,
        ⟨(some 17), (some (16, true)), (.mov (.t 1))⟩,
        ⟨(some 18), (some (16, true)), (.bin .gtr (.t 17) (.k (.int .i64 1)))⟩,
        ⟨(some 19), none, (.pick (.t 16) (.t 18) (.k (.bool false)))⟩])
      (.cnd (.t 19)
        .skip
        (.exit 0)))
      (.seq (.blk 1 (.seq (.ops [⟨(some 22), none, (.mov (.t 0))⟩,
          ⟨(some 23), none, (.callF 20 [(.t 22), (.k (.int .i64 1)), (.k (.int .i64 2))])⟩,
          ⟨(some 24), none, (.mov (.t 0))⟩,
          ⟨(some 25), none, (.mov (.t 1))⟩,
          ⟨(some 26), none, (.callF 19 [(.t 24), (.t 25)])⟩,
          ⟨(some 27), none, (.bld [(.int .i64 0), (.int .i64 0), (.int .i64 0)] [(0, 1, (.t 23)), (1, 1, (.t 26))])⟩,
          ⟨(some 9), none, (.new [(.int .i64 0), (.int .i64 0), (.int .i64 0)])⟩,
          ⟨none, none, (.st 3 (.t 9) (.t 27))⟩])
        (.seq (.ops [⟨(some 28), none, (.flA 1 (.t 9))⟩,
          ⟨(some 29), none, (.ld 1 false (.t 28))⟩,
          ⟨(some 30), none, (.mov (.t 0))⟩,
          ⟨(some 31), none, (.mov (.t 1))⟩,
          ⟨(some 32), none, (.bin .sub (.t 31) (.k (.int .i64 1)))⟩,
          ⟨(some 35), none, (.mov (.t 1))⟩,
          ⟨(some 33), none, (.callF 20 [(.t 30), (.k (.int .i64 1)), (.t 32)])⟩,
          ⟨none, none, (.chk 1 false (.t 28) 29)⟩,
          ⟨(some 34), none, (.bin .add (.t 29) (.t 33))⟩,
          ⟨(some 36), none, (.bin .rem (.t 34) (.t 35))⟩,
          ⟨(some 37), none, (.flA 2 (.t 9))⟩,
          ⟨none, none, (.st 1 (.t 37) (.t 36))⟩])
        (.ops [⟨(some 38), none, (.mov (.t 7))⟩,
          ⟨(some 39), none, (.ld 3 true (.t 9))⟩,
          ⟨(some 40), none, (.bsl 3 [[(.int .i64 0), (.int .i64 0), (.int .i64 0)]] [(0, (.t 39))])⟩,
          ⟨(some 41), none, (.app 3 24 (.t 38) (.t 40) 7)⟩,
          ⟨(some 7), none, (.mov (.t 41))⟩]))))
      (.ops [⟨(some 20), none, (.mov (.t 8))⟩,
        ⟨(some 21), none, (.bin .sub (.t 20) (.k (.int .i64 1)))⟩,
        ⟨(some 8), none, (.mov (.t 21))⟩]))))))
  (.seq (.ops [⟨(some 42), none, (.mov (.t 7))⟩,
    ⟨(some 6), none, (.mov (.t 42))⟩])
  .ret))))⟩
def hint57 (P : Program) : Hint := { site := [(41, 7)], nils := [(7, 3)], frz := [], wr := [] }

theorem bErr_mk {k a b n : Int} (hk : 1 ≤ k ∧ k ≤ 2) (ha : 0 ≤ a ∧ a < n) (hb : 0 ≤ b ∧ b < n ∧ a ≠ b) : bErr ⟨k, a, b⟩ n = 0 := by
  unfold bErr
  rw [if_pos (inB_t.2 hk), if_pos (by rw [Bool.and_eq_true, inB_t, inB_t]; dsimp only; omega), if_neg hb.2.2]
theorem bondsOf_c (g : Nat) (w guests most : Int) (hg : 0 ≤ guests ∧ guests ≤ 1000) (hm : 0 ≤ most ∧ most ≤ 1000) : RawC Try.prog 57 [.ref 1000 g 0, .int .i64 guests, .int .i64 most] (BoxS g w)
    (BoxR g fun av => ∃ bs, av = .slc 3 (bR bs) .non ∧ bsErr guests bs = 0 ∧ (bs.length : Int) ≤ most) := by
  refine RawC.walk (H := hint57 Try.prog) ir57 Try.func57 rfl rfl rfl ?_
  unfold ir57
  repeat' (first
    | with_reducible (first | refine Rd.p ?_ | refine zE ?_ | refine zE0 ?_)
    | with_reducible (first | refine zI fun y hy => ?_ | refine zL ?_ | refine zS ?_ | refine zA fun _ => ?_ | refine zV ?_ | refine zC ?_ | refine zG ?_ | refine zU ?_ | refine zG0 ?_ | refine zU0 ?_ | refine zF ?_)
    | ((with_reducible refine acall_id ?_); refine ACall.box (upp_c _ _ _ (by omega) (by omega)) rfl rfl rfl ?_; rintro _ _ ⟨n0, rfl, hn0, hn1⟩)
    | with_reducible (first | refine zX ?_ | refine zD fun _ => ?_ | refine zD0 ?_ | refine zN ?_ | refine zF0 ?_ | refine zX0 ?_ | refine z1 ?_ | refine z2 ?_ | refine z3 ?_ | refine z4 ?_ | refine z5 ?_ | refine z6 ?_ | refine z7 ?_ | refine z8 ?_ | refine y1 ?_ | refine y2 ?_ | refine y3 ?_ | refine y4 ?_ | refine y5 ?_ | refine y6 ?_ | refine y7 ?_ | refine y8 ?_ | refine Rt.p (fun _ => ?_) fun _ => ?_)
    | ((with_reducible apply w_ixM); (focus exact rfl); (focus exact rfl); case' hk => intro y hy) | ((with_reducible (first | apply w_val | apply q_ends)); (focus exact rfl)))
  rename_i g0 _
  refine w_loopK [0, 1] [] (fun x : List Bond × Nat × Int × Int => (∀ d ∈ x.1, bErr d guests = 0) ∧ 0 ≤ x.2.2.2 ∧ (x.1.length : Int) + x.2.2.2 = n0) (fun x => x.2.2.2.toNat) (fun x => [(8, .int .i64 x.2.2.2), (7, .slc 3 (bR x.1) (.own 7 x.2.1))])
    (fun x => [(7, (x.2.1, .row [])), (1000, (g, .row [.int .u64 x.2.2.1]))]) ([], g0, _, n0) ⟨(fun d hd => by cases hd), by dsimp only; omega, by dsimp only; simp⟩ ⟨rfl, rfl, trivial⟩ ⟨rfl, rfl, trivial⟩ ?_
  rintro ⟨bs, g7, w, n⟩ ⟨hd, hn, hl⟩ e σ
  dsimp only at hd hn hl ⊢
  by_cases hlt : 0 < n ∧ 1 < guests
  case neg =>
    repeat' (first
      | with_reducible (first | refine Rd.p ?_ | refine zE ?_ | refine zE0 ?_)
      | with_reducible (first | refine zI fun y hy => ?_ | refine zL ?_ | refine zS ?_ | refine zA fun _ => ?_ | refine zV ?_ | refine zC ?_ | refine zG ?_ | refine zU ?_ | refine zG0 ?_ | refine zU0 ?_ | refine zF ?_)
      | with_reducible (first | refine zX ?_ | refine zD fun _ => ?_ | refine zD0 ?_ | refine zN ?_ | refine zF0 ?_ | refine zX0 ?_ | refine z1 ?_ | refine z2 ?_ | refine z3 ?_ | refine z4 ?_ | refine z5 ?_ | refine z6 ?_ | refine z7 ?_ | refine z8 ?_ | refine y1 ?_ | refine y2 ?_ | refine y3 ?_ | refine y4 ?_ | refine y5 ?_ | refine y6 ?_ | refine y7 ?_ | refine y8 ?_ | refine Rt.p (fun _ => ?_) fun _ => ?_)
      | ((with_reducible apply w_ixM); (focus exact rfl); (focus exact rfl); case' hk => intro y hy) | ((with_reducible (first | apply w_val | apply q_ends)); (focus exact rfl)))
    all_goals exact ⟨_, ⟨bs, rfl, bsErr_all hd, by omega⟩, rfl⟩
  repeat' (first
    | with_reducible (first | refine Rd.p ?_ | refine zE ?_ | refine zE0 ?_)
    | with_reducible (first | refine zI fun y hy => ?_ | refine zL ?_ | refine zS ?_ | refine zA fun _ => ?_ | refine zV ?_ | refine zC ?_ | refine zG ?_ | refine zU ?_ | refine zG0 ?_ | refine zU0 ?_ | refine zF ?_)
    | ((with_reducible refine acall_id ?_); refine ACall.box (any_c _ _ 1 2 (by omega) (by omega) (by omega) (by omega)) rfl rfl rfl ?_; rintro _ _ ⟨k1, rfl, hk1, hk2⟩)
    | ((with_reducible refine acall_id ?_); refine ACall.box (any_c _ _ 1 (guests - 1) (by omega) (by omega) (by omega) (by omega)) rfl rfl rfl ?_; rintro _ _ ⟨k3, rfl, hk3, hk4⟩)
    | ((with_reducible refine acall_id ?_); refine ACall.box (upp_c _ _ guests (by omega) (by omega)) rfl rfl rfl ?_; rintro _ _ ⟨k5, rfl, hk5, hk6⟩)
    | with_reducible (first | refine zX ?_ | refine zD fun _ => ?_ | refine zD0 ?_ | refine zN ?_ | refine zF0 ?_ | refine zX0 ?_ | refine z1 ?_ | refine z2 ?_ | refine z3 ?_ | refine z4 ?_ | refine z5 ?_ | refine z6 ?_ | refine z7 ?_ | refine z8 ?_ | refine y1 ?_ | refine y2 ?_ | refine y3 ?_ | refine y4 ?_ | refine y5 ?_ | refine y6 ?_ | refine y7 ?_ | refine y8 ?_ | refine Rt.p (fun _ => ?_) fun _ => ?_)
    | ((with_reducible apply w_ixM); (focus exact rfl); (focus exact rfl); case' hk => intro y hy) | ((with_reducible (first | apply w_val | apply q_ends)); (focus exact rfl)))
  refine q_loop (_, _, _, _) ?_ ?_ (by repeat' (first | exact slots_nil | apply slots_cons | rfl | (rw [map_snoc]; rfl) | (rw [len_snoc]; rfl) | (rw [hS]; rfl) | (rw [hS, map_snoc]; rfl) | (refine int_eq ?_; (try dsimp only); omega) | (refine congrArg AV.bool ?_; simp_all; done))) (by repeat' (first | exact slots_nil | apply slots_cons | rfl | (rw [map_snoc]; rfl) | (rw [len_snoc]; rfl) | (rw [hS]; rfl) | (rw [hS, map_snoc]; rfl) | (refine int_eq ?_; (try dsimp only); omega) | (refine congrArg AV.bool ?_; simp_all; done))) (by repeat' (first | exact kept_nil | apply kept_cons | rfl)) (by repeat' (first | exact kept_nil | apply kept_cons | rfl))
  · refine ⟨fun d hd' => ?_, by dsimp only; omega, by simp; omega⟩
    rcases List.mem_append.1 hd' with hd' | hd'
    · exact hd d hd'
    · simp at hd'; subst hd'; exact bErr_mk ⟨by omega, by omega⟩ ⟨by omega, by omega⟩ (next_mod ⟨by omega, by omega⟩ ⟨by omega, by omega⟩)
  · dsimp only; omega
end Go.Abs
