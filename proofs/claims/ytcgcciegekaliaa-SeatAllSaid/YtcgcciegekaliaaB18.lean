/- A part of the proofs of the laws of this seat: contracts of the functions that they reach, each proved of the program's form in Lean. No condition beyond those that each contract names. -/
import Derived.Test.YtcgcciegekaliaaB0
import Derived.Test.YtcgcciegekaliaaB8
import Derived.Test.YtcgcciegekaliaaB7
import Derived.Test.YtcgcciegekaliaaB17
import Derived.Test.YtcgcciegekaliaaB1
set_option linter.unusedVariables false
set_option linter.unusedSimpArgs false
set_option maxRecDepth 20000
set_option maxHeartbeats 4000000
/-! ### Parties made of numbers -/
namespace Go.Abs
open Go.Proofs
/-- aloeswood/aloeswoodkit.PartyOf -/
def ir29 : IFn :=
  ⟨34, [(6, some (2, true))], (.seq (.ops [⟨(some 6), none, (.new [.nsl, .nsl])⟩])
  (.seq (.ops [⟨(some 9), none, (.mov (.t 0))⟩,
    ⟨(some 10), none, (.mov (.t 0))⟩,
    ⟨(some 11), none, (.mov (.t 1))⟩,
    ⟨(some 12), none, (.callF 20 [(.t 10), (.k (.int .i64 1)), (.t 11)])⟩,
    ⟨(some 13), none, (.callF 18 [(.t 9), (.t 12)])⟩,
    ⟨(some 14), none, (.bld [.nsl, .nsl] [(0, 1, (.t 13))])⟩,
    ⟨(some 7), none, (.new [.nsl, .nsl])⟩,
    ⟨none, none, (.st 2 (.t 7) (.t 14))⟩])
  (.seq (.seq (.ops [⟨(some 15), none, (.mov (.t 0))⟩,
    ⟨(some 16), none, (.mov (.t 2))⟩,
    ⟨(some 17), none, (.bin .add (.t 16) (.k (.int .i64 1)))⟩,
    ⟨(some 18), none, (.callF 19 [(.t 15), (.t 17)])⟩,
    ⟨(some 8), none, (.mov (.t 18))⟩])
  (.blk 0 (.loop (.seq (.seq (.ops [⟨(some 19), none, (.mov (.t 8))⟩,
        ⟨(some 20), none, (.bin .gtr (.t 19) (.k (.int .i64 0)))⟩])
      (.cnd (.t 20)
        .skip
        (.exit 0)))
      (.seq (.blk 1 (.ops [⟨(some 23), none, (.flA 1 (.t 7))⟩,
          ⟨(some 24), none, (.ld 1 false (.t 23))⟩,
          ⟨(some 25), none, (.mov (.t 0))⟩,
          ⟨(some 26), none, (.flA 0 (.t 7))⟩,
          ⟨(some 27), none, (.ld 1 false (.t 26))⟩,
          ⟨(some 28), none, (.len false (.t 27))⟩,
          ⟨(some 29), none, (.callF 31 [(.t 25), (.t 28)])⟩,
          ⟨none, none, (.chk 1 false (.t 23) 24)⟩,
          ⟨(some 30), none, (.bsl 4 [[(.int .i64 0), (.int .i64 0), (.int .i64 0), (.int .i64 0)]] [(0, (.t 29))])⟩,
          ⟨(some 31), none, (.app 4 32 (.t 24) (.t 30) 31)⟩,
          ⟨(some 32), none, (.flA 1 (.t 7))⟩,
          ⟨none, none, (.st 1 (.t 32) (.t 31))⟩]))
      (.ops [⟨(some 21), none, (.mov (.t 8))⟩,
        ⟨(some 22), none, (.bin .sub (.t 21) (.k (.int .i64 1)))⟩,
        ⟨(some 8), none, (.mov (.t 22))⟩]))))))
  (.seq (.ops [⟨(some 33), none, (.ld 2 true (.t 7))⟩,
    ⟨none, none, (.st 2 (.t 6) (.t 33))⟩])
  .ret))))⟩
def hint29 (P : Program) : Hint := {}

theorem zW {e : Nat → AV} {σ : Sig} {R : AV → Sig → Prop} {res : List (Nat × Option (Nat × Bool))} {p : Prop} {l : List AV} (a' : AV) (hs : Sub (untag (tupV l)) a') (hR : R a' σ) (h : resV e σ res = some (p, l) := by with_unfolding_all exact rfl) (hp : p := by with_unfolding_all exact sd) : EndS res (fun a s => ∃ a', Sub a a' ∧ R a' s) .ret e σ := by
  have : endW (some (p, l)) (fun av => ∃ a', Sub av a' ∧ R a' σ) := ⟨hp, _, fun G v hv => hs G v (untag_sub _ G v hv), hR⟩
  rw [← h] at this; exact this
theorem Sub.agg {l m : List AV} (h : SubL l m) : Sub (.agg l) (.agg m) := fun G v ⟨vs, h1, h2⟩ => ⟨vs, h1, SubL.rel h h2⟩
/-- The copy, with the room behind its slices. -/
theorem ownPartyO_c (gs : List Guest) (rs : List Rule) (hg : gs.length ≤ 1000000) (hr : rs.length ≤ 1000000) : RawC Try.prog 30 [pA gs rs] (sg []) (SR (fun (x : Nat × Nat) v => v = .agg [.slc 5 (gR gs) (.own 6 x.1), .slc 4 (rR rs) (.own 10 x.2)]) (fun x => [(6, (x.1, .row [])), (10, (x.2, .row []))])) := by
  have h1 : (gR gs).length = gs.length := by simp
  have h2 : (rR rs).length = rs.length := by simp
  refine RawC.walk (H := hint30 Try.prog) ir30 Try.func30 rfl rfl rfl ?_
  unfold ir30
  repeat' (first
    | with_reducible (first | refine Rd.p ?_ | refine zO ?_ | refine zE0 ?_)
    | with_reducible (first | refine zI fun y hy => ?_ | refine zL ?_ | refine zS ?_ | refine zA fun _ => ?_ | refine zV ?_ | refine zC ?_ | refine zG ?_ | refine zU ?_ | refine zG0 ?_ | refine zU0 ?_ | refine zF ?_)
    | with_reducible (first | refine zX ?_ | refine zD fun _ => ?_ | refine zD0 ?_ | refine zN ?_ | refine zF0 ?_ | refine zX0 ?_ | refine z1 ?_ | refine z2 ?_ | refine z3 ?_ | refine z4 ?_ | refine z5 ?_ | refine z6 ?_ | refine z7 ?_ | refine z8 ?_ | refine y1 ?_ | refine y2 ?_ | refine y3 ?_ | refine y4 ?_ | refine y5 ?_ | refine y6 ?_ | refine y7 ?_ | refine y8 ?_ | refine Rt.p (fun _ => ?_) fun _ => ?_)
    | ((with_reducible apply w_ixM); (focus exact rfl); (focus exact rfl); case' hk => intro y hy) | ((with_reducible (first | apply w_val | apply q_ends)); (focus exact rfl)))
  exact ⟨(_, _), rfl, rfl, rfl, trivial⟩
def rulesV (rs : List Rule) (g : Nat) : AV := match rs with
  | [] => .nsl
  | _ :: _ => .slc 4 (rR rs) (.own 31 g)
def rulesS (rs : List Rule) (g : Nat) : List (Nat × (Nat × Res)) := match rs with
  | [] => []
  | _ :: _ => [(31, (g, .row []))]
/-- A party made of numbers. -/
structure madeP (gs : List Guest) (rs : List Rule) (guests rules : Nat) : Prop where
  g : madeG gs
  g1 : 1 ≤ gs.length
  gn : gs.length ≤ guests
  rn : rs.length ≤ rules
  r : ∀ r ∈ rs, rErr r gs.length = 0
theorem partyOf_c (g : Nat) (w : Int) (guests rules : Nat) (hg : 1 ≤ guests ∧ guests ≤ 7) (hr : rules ≤ 12) : RawC Try.prog 29 [.ref 1000 g 0, .int .i64 guests, .int .i64 rules] (BoxS g w) (BoxR g fun av => ∃ gs rs, av = pA gs rs ∧ madeP gs rs guests rules) := by
  refine RawC.walk (H := hint29 Try.prog) ir29 Try.func29 rfl rfl rfl ?_
  unfold ir29
  repeat' (first
    | with_reducible (first | refine Rd.p ?_ | refine zE ?_ | refine zE0 ?_)
    | with_reducible (first | refine zI fun y hy => ?_ | refine zL ?_ | refine zS ?_ | refine zA fun _ => ?_ | refine zV ?_ | refine zC ?_ | refine zG ?_ | refine zU ?_ | refine zG0 ?_ | refine zU0 ?_ | refine zF ?_)
    | ((with_reducible refine acall_id ?_); refine ACall.box (any_c _ _ _ _ (by omega) (by omega) (by omega) (by omega)) rfl rfl rfl ?_; rintro _ _ ⟨k, rfl, hk1, hk2⟩)
    | ((with_reducible refine acall_id ?_); refine ACall.box (guestsOf_c _ _ _ (by omega)) rfl rfl rfl ?_; rintro _ _ ⟨gs, rfl, hgs, hgl⟩)
    | ((with_reducible refine acall_id ?_); refine ACall.box (upp_c _ _ _ (by omega) (by omega)) rfl rfl rfl ?_; rintro _ _ ⟨m, rfl, hm1, hm2⟩)
    | with_reducible (first | refine zX ?_ | refine zD fun _ => ?_ | refine zD0 ?_ | refine zN ?_ | refine zF0 ?_ | refine zX0 ?_ | refine z1 ?_ | refine z2 ?_ | refine z3 ?_ | refine z4 ?_ | refine z5 ?_ | refine z6 ?_ | refine z7 ?_ | refine z8 ?_ | refine y1 ?_ | refine y2 ?_ | refine y3 ?_ | refine y4 ?_ | refine y5 ?_ | refine y6 ?_ | refine y7 ?_ | refine y8 ?_ | refine Rt.p (fun _ => ?_) fun _ => ?_)
    | ((with_reducible apply w_ixM); (focus exact rfl); (focus exact rfl); case' hk => intro y hy) | ((with_reducible (first | apply w_val | apply q_ends)); (focus exact rfl)))
  rename_i g6 _ _ g7 _
  refine w_loopK [0, 6, 7] [6] (fun x : List Rule × Int × Nat × Int => 0 ≤ x.2.1 ∧ (x.1.length : Int) + x.2.1 ≤ rules ∧ ∀ r ∈ x.1, rErr r gs.length = 0) (fun x => x.2.1.toNat) (fun x => [(8, .int .i64 x.2.1)])
    (fun x => [(7, (g7, .row [.slc 5 (gR gs) .non, rulesV x.1 x.2.2.1])), (1000, (g, .row [.int .u64 x.2.2.2]))] ++ rulesS x.1 x.2.2.1) ([], m, 0, _) ⟨hm1, by simp; omega, fun r h => by cases h⟩ ⟨rfl, trivial⟩ (by exact ⟨rfl, rfl, trivial⟩) ?_
  rintro ⟨rs, i, g31, w⟩ ⟨hi0, hil, hrs⟩ e σ
  dsimp only at hi0 hil hrs ⊢
  by_cases hi : 0 < i
  case neg =>
    cases rs with
    | nil =>
      repeat' (first
        | with_reducible (first | refine Rd.p ?_ | refine zW (pA gs []) ?_ ?_)
        | with_reducible (first | refine zI fun y hy => ?_ | refine zL ?_ | refine zS ?_ | refine zA fun _ => ?_ | refine zV ?_ | refine zC ?_ | refine zG ?_ | refine zU ?_ | refine zG0 ?_ | refine zU0 ?_ | refine zF ?_)
        | with_reducible (first | refine zX ?_ | refine zD fun _ => ?_ | refine zD0 ?_ | refine zN ?_ | refine zF0 ?_ | refine zX0 ?_ | refine z1 ?_ | refine z2 ?_ | refine z3 ?_ | refine z4 ?_ | refine z5 ?_ | refine z6 ?_ | refine z7 ?_ | refine z8 ?_ | refine y1 ?_ | refine y2 ?_ | refine y3 ?_ | refine y4 ?_ | refine y5 ?_ | refine y6 ?_ | refine y7 ?_ | refine y8 ?_ | refine Rt.p (fun _ => ?_) fun _ => ?_)
        | ((with_reducible apply w_ixM); (focus exact rfl); (focus exact rfl); case' hk => intro y hy) | ((with_reducible (first | apply w_val | apply q_ends)); (focus exact rfl)))
      · exact Sub.agg (.cons (Sub.refl _) (.cons Sub.nil .nil))
      · exact ⟨_, ⟨gs, [], rfl, hgs, by omega, by omega, by simp, hrs⟩, rfl⟩
    | cons r0 rs =>
      repeat' (first
        | with_reducible (first | refine Rd.p ?_ | refine zE ?_ | refine zE0 ?_)
        | with_reducible (first | refine zI fun y hy => ?_ | refine zL ?_ | refine zS ?_ | refine zA fun _ => ?_ | refine zV ?_ | refine zC ?_ | refine zG ?_ | refine zU ?_ | refine zG0 ?_ | refine zU0 ?_ | refine zF ?_)
        | with_reducible (first | refine zX ?_ | refine zD fun _ => ?_ | refine zD0 ?_ | refine zN ?_ | refine zF0 ?_ | refine zX0 ?_ | refine z1 ?_ | refine z2 ?_ | refine z3 ?_ | refine z4 ?_ | refine z5 ?_ | refine z6 ?_ | refine z7 ?_ | refine z8 ?_ | refine y1 ?_ | refine y2 ?_ | refine y3 ?_ | refine y4 ?_ | refine y5 ?_ | refine y6 ?_ | refine y7 ?_ | refine y8 ?_ | refine Rt.p (fun _ => ?_) fun _ => ?_)
        | ((with_reducible apply w_ixM); (focus exact rfl); (focus exact rfl); case' hk => intro y hy) | ((with_reducible (first | apply w_val | apply q_ends)); (focus exact rfl)))
      exact ⟨_, ⟨gs, r0 :: rs, rfl, hgs, by omega, by omega, by omega, hrs⟩, rfl⟩
  have hnew : ∀ r : Rule, rErr r gs.length = 0 → ∀ r' ∈ rs ++ [r], rErr r' gs.length = 0 := by
    intro r hr r' h'
    rcases List.mem_append.1 h' with h' | h'
    · exact hrs r' h'
    · simp at h'; subst h'; exact hr
  cases rs with
  | nil =>
    repeat' (first
      | with_reducible (first | refine Rd.p ?_ | refine zE ?_ | refine zE0 ?_)
      | with_reducible (first | refine zI fun y hy => ?_ | refine zL ?_ | refine zS ?_ | refine zA fun _ => ?_ | refine zV ?_ | refine zC ?_ | refine zG ?_ | refine zU ?_ | refine zG0 ?_ | refine zU0 ?_ | refine zF ?_)
      | ((with_reducible refine acall_id ?_); refine ACall.box (ruleOf_c _ _ _ (by omega)) rfl rfl rfl ?_; rintro _ _ ⟨r, rfl, hr'⟩)
      | with_reducible (first | refine zX ?_ | refine zD fun _ => ?_ | refine zD0 ?_ | refine zN ?_ | refine zF0 ?_ | refine zX0 ?_ | refine z1 ?_ | refine z2 ?_ | refine z3 ?_ | refine z4 ?_ | refine z5 ?_ | refine z6 ?_ | refine z7 ?_ | refine z8 ?_ | refine y1 ?_ | refine y2 ?_ | refine y3 ?_ | refine y4 ?_ | refine y5 ?_ | refine y6 ?_ | refine y7 ?_ | refine y8 ?_ | refine Rt.p (fun _ => ?_) fun _ => ?_)
      | ((with_reducible apply w_ixM); (focus exact rfl); (focus exact rfl); case' hk => intro y hy) | ((with_reducible (first | apply w_val | apply q_ends)); (focus exact rfl)))
    refine q_loop ([r], i - 1, _, _) ?_ ?_ (by repeat' (first | exact slots_nil | apply slots_cons | rfl | (rw [map_snoc]; rfl) | (rw [len_snoc]; rfl) | (rw [hS]; rfl) | (rw [hS, map_snoc]; rfl) | (refine int_eq ?_; (try dsimp only); omega) | (refine congrArg AV.bool ?_; simp_all; done))) (by repeat' (first | exact slots_nil | apply slots_cons | rfl | (rw [map_snoc]; rfl) | (rw [len_snoc]; rfl) | (rw [hS]; rfl) | (rw [hS, map_snoc]; rfl) | (refine int_eq ?_; (try dsimp only); omega) | (refine congrArg AV.bool ?_; simp_all; done))) (by repeat' (first | exact kept_nil | apply kept_cons | rfl)) (by repeat' (first | exact kept_nil | apply kept_cons | rfl))
    · exact ⟨by dsimp only; omega, by simp at hil ⊢; omega, hnew r (by simpa using hr')⟩
    · dsimp only; omega
  | cons r0 rs =>
    repeat' (first
      | with_reducible (first | refine Rd.p ?_ | refine zE ?_ | refine zE0 ?_)
      | with_reducible (first | refine zI fun y hy => ?_ | refine zL ?_ | refine zS ?_ | refine zA fun _ => ?_ | refine zV ?_ | refine zC ?_ | refine zG ?_ | refine zU ?_ | refine zG0 ?_ | refine zU0 ?_ | refine zF ?_)
      | ((with_reducible refine acall_id ?_); refine ACall.box (ruleOf_c _ _ _ (by omega)) rfl rfl rfl ?_; rintro _ _ ⟨r, rfl, hr'⟩)
      | with_reducible (first | refine zX ?_ | refine zD fun _ => ?_ | refine zD0 ?_ | refine zN ?_ | refine zF0 ?_ | refine zX0 ?_ | refine z1 ?_ | refine z2 ?_ | refine z3 ?_ | refine z4 ?_ | refine z5 ?_ | refine z6 ?_ | refine z7 ?_ | refine z8 ?_ | refine y1 ?_ | refine y2 ?_ | refine y3 ?_ | refine y4 ?_ | refine y5 ?_ | refine y6 ?_ | refine y7 ?_ | refine y8 ?_ | refine Rt.p (fun _ => ?_) fun _ => ?_)
      | ((with_reducible apply w_ixM); (focus exact rfl); (focus exact rfl); case' hk => intro y hy) | ((with_reducible (first | apply w_val | apply q_ends)); (focus exact rfl)))
    refine q_loop (r0 :: rs ++ [r], i - 1, _, _) ?_ ?_ (by repeat' (first | exact slots_nil | apply slots_cons | rfl | (rw [map_snoc]; rfl) | (rw [len_snoc]; rfl) | (rw [hS]; rfl) | (rw [hS, map_snoc]; rfl) | (refine int_eq ?_; (try dsimp only); omega) | (refine congrArg AV.bool ?_; simp_all; done))) (by repeat' (first | exact slots_nil | apply slots_cons | rfl | (rw [map_snoc]; rfl) | (rw [len_snoc]; rfl) | (rw [hS]; rfl) | (rw [hS, map_snoc]; rfl) | (refine int_eq ?_; (try dsimp only); omega) | (refine congrArg AV.bool ?_; simp_all; done))) (by repeat' (first | exact kept_nil | apply kept_cons | rfl)) (by repeat' (first | exact kept_nil | apply kept_cons | rfl))
    · exact ⟨by dsimp only; omega, by simp at hil ⊢; omega, hnew r (by simpa using hr')⟩
    · dsimp only; omega
end Go.Abs
