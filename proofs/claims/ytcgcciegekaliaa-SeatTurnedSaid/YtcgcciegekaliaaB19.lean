/- A part of the proofs of the laws of this seat: contracts of the functions that they reach, each proved of the program's form in Lean. No condition beyond those that each contract names. -/
import Derived.Test.YtcgcciegekaliaaB16
import Derived.Test.YtcgcciegekaliaaB9
import Derived.Test.YtcgcciegekaliaaB0
import Derived.Test.YtcgcciegekaliaaB11
import Derived.Test.YtcgcciegekaliaaB8
import Derived.Test.YtcgcciegekaliaaB12
import Derived.Test.YtcgcciegekaliaaB7
import Derived.Test.YtcgcciegekaliaaB5
import Derived.Test.YtcgcciegekaliaaB18
import Derived.Test.YtcgcciegekaliaaB13
import Derived.Test.YtcgcciegekaliaaB17
import Derived.Test.YtcgcciegekaliaaB14
set_option linter.unusedVariables false
set_option linter.unusedSimpArgs false
set_option maxRecDepth 20000
set_option maxHeartbeats 4000000
/-! ### SeatMore -/
namespace Go.Abs
open Go.Proofs
/-- aloeswood/aloeswoodlaw08.SeatMore -/
def ir5 : IFn :=
  ⟨94, [(2, none)], (.seq (.ops [⟨(some 2), none, (.mov (.k (.bool false)))⟩])
  (.seq (.ops [⟨(some 17), none, (.mov (.t 0))⟩,
    ⟨(some 18), none, (.callF 17 [(.t 17)])⟩,
    ⟨(some 3), none, (.mov (.t 18))⟩])
  (.seq (.ops [⟨(some 19), none, (.mov (.t 3))⟩,
    ⟨(some 20), none, (.callF 29 [(.t 19), (.k (.int .i64 5)), (.k (.int .i64 6))])⟩,
    ⟨(some 4), none, (.new [.nsl, .nsl])⟩,
    ⟨none, none, (.st 2 (.t 4) (.t 20))⟩])
  (.seq (.ops [⟨(some 21), none, (.ld 2 true (.t 4))⟩,
    ⟨(some 22), none, (.callF 30 [(.t 21)])⟩,
    ⟨(some 5), none, (.new [.nsl, .nsl])⟩,
    ⟨none, none, (.st 2 (.t 5) (.t 22))⟩])
  (.seq (.ops [⟨(some 23), none, (.mov (.t 3))⟩,
    ⟨(some 24), none, (.flA 0 (.t 4))⟩,
    ⟨(some 25), none, (.ld 1 false (.t 24))⟩,
    ⟨(some 26), none, (.len false (.t 25))⟩,
    ⟨(some 27), none, (.callF 31 [(.t 23), (.t 26)])⟩,
    ⟨(some 6), none, (.new [(.int .i64 0), (.int .i64 0), (.int .i64 0), (.int .i64 0)])⟩,
    ⟨none, none, (.st 4 (.t 6) (.t 27))⟩])
  (.seq (.ops [⟨(some 28), none, (.flA 3 (.t 6))⟩,
    ⟨none, none, (.st 1 (.t 28) (.k (.int .i64 0)))⟩])
  (.seq (.ops [⟨(some 29), none, (.flA 1 (.t 5))⟩,
    ⟨(some 30), none, (.ld 1 false (.t 29))⟩,
    ⟨(some 31), none, (.ld 4 true (.t 6))⟩,
    ⟨(some 32), none, (.bsl 4 [[(.int .i64 0), (.int .i64 0), (.int .i64 0), (.int .i64 0)]] [(0, (.t 31))])⟩,
    ⟨(some 33), none, (.app 4 32 (.t 30) (.t 32) 33)⟩,
    ⟨(some 34), none, (.flA 1 (.t 5))⟩,
    ⟨none, none, (.st 1 (.t 34) (.t 33))⟩])
  (.seq (.ops [⟨(some 36), none, (.ld 2 true (.t 4))⟩,
    ⟨(some 37), none, (.callF 32 [(.t 36)])⟩,
    ⟨(some 35), none, (.mov (.t 37))⟩,
    ⟨(some 38), none, (.ext 0 (.t 35))⟩,
    ⟨(some 39), none, (.ext 1 (.t 35))⟩,
    ⟨(some 7), none, (.mov (.t 38))⟩,
    ⟨(some 8), none, (.mov (.t 39))⟩])
  (.seq (.ops [⟨(some 41), none, (.ld 2 true (.t 5))⟩,
    ⟨(some 42), none, (.callF 32 [(.t 41)])⟩,
    ⟨(some 40), none, (.mov (.t 42))⟩,
    ⟨(some 43), none, (.ext 0 (.t 40))⟩,
    ⟨(some 44), none, (.ext 1 (.t 40))⟩,
    ⟨(some 9), none, (.mov (.t 43))⟩,
    ⟨(some 10), none, (.mov (.t 44))⟩])
  (.seq (.ops [⟨(some 46), none, (.ld 2 true (.t 4))⟩,
    ⟨(some 47), none, (.callF 33 [(.t 46)])⟩,
    ⟨(some 45), none, (.mov (.t 47))⟩,
    ⟨(some 48), none, (.ext 0 (.t 45))⟩,
    ⟨(some 49), none, (.ext 1 (.t 45))⟩,
    ⟨(some 50), none, (.ext 2 (.t 45))⟩,
    ⟨(some 11), none, (.mov (.t 48))⟩,
    ⟨(some 12), none, (.mov (.t 49))⟩,
    ⟨(some 13), none, (.mov (.t 50))⟩])
  (.seq (.ops [⟨(some 52), none, (.ld 2 true (.t 5))⟩,
    ⟨(some 53), none, (.callF 33 [(.t 52)])⟩,
    ⟨(some 51), none, (.mov (.t 53))⟩,
    ⟨(some 54), none, (.ext 0 (.t 51))⟩,
    ⟨(some 55), none, (.ext 1 (.t 51))⟩,
    ⟨(some 56), none, (.ext 2 (.t 51))⟩,
    ⟨(some 14), none, (.mov (.t 54))⟩,
    ⟨(some 15), none, (.mov (.t 55))⟩,
    ⟨(some 16), none, (.mov (.t 56))⟩])
  (.seq (.ops [⟨(some 57), none, (.mov (.t 8))⟩,
    ⟨(some 58), none, (.bin .eql (.t 57) (.k (.int .i64 0)))⟩,
    ⟨(some 59), none, (.mov (.t 58))⟩,
    ⟨(some 60), (some (59, true)), (.mov (.t 10))⟩,
    ⟨(some 61), (some (59, true)), (.bin .eql (.t 60) (.k (.int .i64 0)))⟩,
    ⟨(some 62), none, (.pick (.t 59) (.t 61) (.k (.bool false)))⟩,
    ⟨(some 63), none, (.mov (.t 62))⟩,
    ⟨(some 64), (some (63, true)), (.mov (.t 9))⟩,
    ⟨(some 65), (some (63, true)), (.mov (.t 7))⟩,
    ⟨(some 66), (some (63, true)), (.bin .leq (.t 64) (.t 65))⟩,
    ⟨(some 67), none, (.pick (.t 63) (.t 66) (.k (.bool false)))⟩,
    ⟨(some 68), none, (.mov (.t 67))⟩,
    ⟨(some 69), (some (68, true)), (.mov (.t 13))⟩,
    ⟨(some 70), (some (68, true)), (.bin .eql (.t 69) (.k (.int .i64 0)))⟩,
    ⟨(some 71), (some (68, true)), (.mov (.t 7))⟩,
    ⟨(some 72), (some (68, true)), (.bin .gtr (.t 71) (.k (.int .i64 0)))⟩,
    ⟨(some 73), (some (68, true)), (.eqn .bool false (.t 70) (.t 72))⟩,
    ⟨(some 74), none, (.pick (.t 68) (.t 73) (.k (.bool false)))⟩,
    ⟨(some 75), none, (.mov (.t 74))⟩,
    ⟨(some 76), (some (75, true)), (.mov (.t 16))⟩,
    ⟨(some 77), (some (75, true)), (.bin .eql (.t 76) (.k (.int .i64 0)))⟩,
    ⟨(some 78), (some (75, true)), (.mov (.t 9))⟩,
    ⟨(some 79), (some (75, true)), (.bin .gtr (.t 78) (.k (.int .i64 0)))⟩,
    ⟨(some 80), (some (75, true)), (.eqn .bool false (.t 77) (.t 79))⟩,
    ⟨(some 81), none, (.pick (.t 75) (.t 80) (.k (.bool false)))⟩,
    ⟨(some 82), none, (.mov (.t 81))⟩,
    ⟨(some 83), (some (82, true)), (.mov (.t 9))⟩,
    ⟨(some 84), (some (82, true)), (.bin .eql (.t 83) (.k (.int .i64 0)))⟩,
    ⟨(some 85), (some (82, true)), (.mov (.t 84))⟩,
    ⟨(some 86), (some (85, false)), (.mov (.t 15))⟩,
    ⟨(some 87), (some (85, false)), (.mov (.t 12))⟩,
    ⟨(some 88), (some (85, false)), (.bin .geq (.t 86) (.t 87))⟩,
    ⟨(some 89), (some (82, true)), (.pick (.t 85) (.k (.bool true)) (.t 88))⟩,
    ⟨(some 90), none, (.pick (.t 82) (.t 89) (.k (.bool false)))⟩,
    ⟨(some 91), none, (.mov (.t 90))⟩,
    ⟨(some 92), (some (91, true)), (.callF 16 [])⟩,
    ⟨(some 93), none, (.pick (.t 91) (.t 92) (.k (.bool false)))⟩,
    ⟨(some 2), none, (.mov (.t 93))⟩])
  .ret))))))))))))⟩
def hint5 (P : Program) : Hint := {}

theorem rsErr_all {n : Int} : ∀ {rs : List Rule}, (∀ r ∈ rs, rErr r n = 0) → rsErr n rs = 0
  | [], _ => rfl
  | r :: rs, h => by rw [rsErr, if_pos (h r (by simp))]; exact rsErr_all fun x hx => h x (by simp [hx])
theorem pErr_made {gs : List Guest} {rs : List Rule} (hg : madeG gs) (h1 : 1 ≤ gs.length) (h7 : gs.length ≤ 7) (hr : rs.length ≤ 12) (h : ∀ r ∈ rs, rErr r gs.length = 0) : pErr gs rs = 0 := by
  rw [pErr, if_neg (by omega), if_neg (by omega), if_pos (madeG_ok hg).1, if_neg (by omega)]; exact rsErr_all h
theorem rErr_w0 {k a b w n : Int} (h : rErr ⟨k, a, b, w⟩ n = 0) : rErr ⟨k, a, b, 0⟩ n = 0 := by
  unfold rErr at h ⊢
  dsimp only at h ⊢
  split at h
  · rename_i h1
    rw [if_pos h1]
    split at h
    · rename_i h2
      rw [if_pos h2]
      split at h
      · rename_i h3
        rw [if_pos h3]
        split at h
        · cases h
        · rename_i h4
          rw [if_neg h4]; rfl
      · rename_i h3; exact absurd h h3
    · rename_i h2; exact absurd h h2
  · cases h
theorem bestP_cases {gs : List Guest} {rs : List Rule} (h : pErr gs rs = 0) : (okL gs rs = [] ∧ bestP gs rs = (none, 0, 12)) ∨ ∃ l ∈ okL gs rs, bestP gs rs = (some l, prS gs rs l, 0) ∧ ∀ x ∈ okL gs rs, prS gs rs l ≤ prS gs rs x := by
  have hr : rs.length ≤ 62 := by have := (pOK_of h).r12; omega
  have hb := bestB_eq gs rs hr
  have hp : bestP gs rs = if (bestB gs rs).1 = none then (none, 0, 12) else ((bestB gs rs).1, (bestB gs rs).2, 0) := by rw [bestP, if_pos h]
  by_cases h0 : okL gs rs = []
  · left
    rw [h0, bestL_nil] at hb
    rw [hb] at hp
    exact ⟨h0, hp⟩
  · right
    obtain ⟨l, h1, h2, h3⟩ := bestL_least (prS gs rs) h0
    rw [hb, h2] at hp
    exact ⟨l, h1, hp, h3⟩
theorem wsum_snoc (p : Rule → Bool) (r : Rule) : ∀ rs, wsum p (rs ++ [r]) = wsum p rs + if p r = true then r.weight else 0
  | [] => by simp [wsum]
  | x :: rs => by simp only [List.cons_append, wsum, wsum_snoc p r rs]; omega
theorem more_price (gs : List Guest) (rs : List Rule) (k a b : Int) (l : List Int) : prS gs (rs ++ [⟨k, a, b, 0⟩]) l = prS gs rs l := by
  rw [prS, wsum_snoc]; simp [prS]
theorem more_sub (gs : List Guest) (rs : List Rule) (r : Rule) : okL gs (rs ++ [r]) = (okL gs rs).filter fun l => decide (r.weight ≠ 0) || keepsB gs (atL l) r := by
  simp only [okL, List.filter_filter]
  congr 1
  funext l
  simp only [alwB, List.all_append, List.all_cons, List.all_nil, Bool.and_true]
  rw [Bool.and_comm]
theorem seatMore_c (nums : List Int) (hn : nums.length < 2 ^ 62) : Fn0 Try.prog 5 [.slc 1 (iR nums) .non] (fun v => v = .bool true) := by
  refine RawC.walk (H := hint5 Try.prog) ir5 Try.func5 rfl rfl rfl ?_
  unfold ir5
  repeat' (first
    | with_reducible (first | refine Rd.p ?_ | refine zE ?_ | refine zE0 ?_)
    | with_reducible (first | refine zI fun y hy => ?_ | refine zL ?_ | refine zS ?_ | refine zA fun _ => ?_ | refine zV ?_ | refine zC ?_ | refine zG ?_ | refine zU ?_ | refine zG0 ?_ | refine zU0 ?_ | refine zF ?_)
    | ((with_reducible refine acall_id ?_); refine ACall.liftS (boxOf_s nums hn) [] (some 6) rfl rfl rfl trivial (fun _ => rfl) ?_; rintro ⟨gb, w⟩ _ rfl)
    | ((with_reducible refine acall_id ?_); refine ACall.box (partyOf_c _ _ 5 6 (by omega) (by omega)) rfl rfl rfl ?_; rintro _ _ ⟨gs, rs, rfl, hm⟩)
    | ((with_reducible refine acall_id ?_); refine ACall.liftS (ownPartyO_c _ _ (by have := hm.gn; omega) (by have := hm.rn; omega)) [] (some 10) rfl rfl rfl trivial (fun _ => rfl) ?_; rintro ⟨g6, g10⟩ _ rfl)
    | with_reducible (first | refine zX ?_ | refine zD fun _ => ?_ | refine zD0 ?_ | refine zN ?_ | refine zF0 ?_ | refine zX0 ?_ | refine z1 ?_ | refine z2 ?_ | refine z3 ?_ | refine z4 ?_ | refine z5 ?_ | refine z6 ?_ | refine z7 ?_ | refine z8 ?_ | refine y1 ?_ | refine y2 ?_ | refine y3 ?_ | refine y4 ?_ | refine y5 ?_ | refine y6 ?_ | refine y7 ?_ | refine y8 ?_ | refine Rt.p (fun _ => ?_) fun _ => ?_)
    | ((with_reducible apply w_ixM); (focus exact rfl); (focus exact rfl); case' hk => intro y hy) | ((with_reducible (first | apply w_val | apply q_ends)); (focus exact rfl)))
  have g1 := hm.g1
  have gn := hm.gn
  have rn := hm.rn
  repeat' (first
    | with_reducible (first | refine Rd.p ?_ | refine zE ?_ | refine zE0 ?_)
    | (refine w_appS rfl rfl (app_one (z := (⟨rk, ra, rb, 0⟩ : Rule)) rfl) sd sd fun _ => ?_)
    | with_reducible (first | refine zI fun y hy => ?_ | refine zL ?_ | refine zS ?_ | refine zA fun _ => ?_ | refine zV ?_ | refine zC ?_ | refine zG ?_ | refine zU ?_ | refine zG0 ?_ | refine zU0 ?_ | refine zF ?_)
    | ((with_reducible refine acall_id ?_); refine ACall.box (ruleOf_c _ _ _ (by omega)) rfl rfl rfl ?_; rintro _ _ ⟨⟨rk, ra, rb, rw'⟩, rfl, hr0⟩)
    | with_reducible (first | refine zX ?_ | refine zD fun _ => ?_ | refine zD0 ?_ | refine zN ?_ | refine zF0 ?_ | refine zX0 ?_ | refine z1 ?_ | refine z2 ?_ | refine z3 ?_ | refine z4 ?_ | refine z5 ?_ | refine z6 ?_ | refine z7 ?_ | refine z8 ?_ | refine y1 ?_ | refine y2 ?_ | refine y3 ?_ | refine y4 ?_ | refine y5 ?_ | refine y6 ?_ | refine y7 ?_ | refine y8 ?_ | refine Rt.p (fun _ => ?_) fun _ => ?_)
    | ((with_reducible apply w_ixM); (focus exact rfl); (focus exact rfl); case' hk => intro y hy) | ((with_reducible (first | apply w_val | apply q_ends)); (focus exact rfl)))
  have hsz : ∀ x ∈ gs, x.name.size ≤ 1000 := fun x hx => by have := (madeG_ok hm.g).2 x hx; omega
  have hk := pErr_made hm.g g1 (by omega) (by omega) hm.r
  have hml : (rs ++ [(⟨rk, ra, rb, 0⟩ : Rule)]).length = rs.length + 1 := by simp
  have hk2 : pErr gs (rs ++ [⟨rk, ra, rb, 0⟩]) = 0 := pErr_made hm.g g1 (by omega) (by omega) fun r hr => by
    rcases List.mem_append.1 hr with hr | hr
    · exact hm.r r hr
    · simp at hr; subst hr; exact rErr_w0 hr0
  have hC := Count_c gs rs (by omega) (by omega) hsz
  have hC2 := Count_c gs (rs ++ [⟨rk, ra, rb, 0⟩]) (by omega) (by omega) hsz
  have hB := Best_c gs rs (by omega) (by omega) hsz
  have hB2 := Best_c gs (rs ++ [⟨rk, ra, rb, 0⟩]) (by omega) (by omega) hsz
  rw [if_pos hk, hk] at hC
  rw [if_pos hk2, hk2] at hC2
  have hsub := more_sub gs rs ⟨rk, ra, rb, 0⟩
  have hle : (okL gs (rs ++ [⟨rk, ra, rb, 0⟩])).length ≤ (okL gs rs).length := by rw [hsub]; exact List.length_filter_le _ _
  have hin : ∀ x ∈ okL gs (rs ++ [⟨rk, ra, rb, 0⟩]), x ∈ okL gs rs := fun x hx => by rw [hsub] at hx; exact (List.mem_filter.1 hx).1
  have hlen0 : ∀ {l : List (List Int)} {x : List Int}, x ∈ l → 0 < l.length := fun h => List.length_pos_of_mem h
  rcases bestP_cases hk with ⟨h1, h2⟩ | ⟨l, h1, h2, h3⟩ <;> rcases bestP_cases hk2 with ⟨k1, k2⟩ | ⟨l2, k1, k2, k3⟩
  · rw [h2] at hB; rw [k2] at hB2; rw [h1] at hle hC; rw [k1] at hC2
    dsimp only [optV] at hB hB2
    repeat' (first
      | with_reducible (first | refine Rd.p ?_ | refine zE ?_ | refine zE0 ?_)
      | with_reducible (first | refine zI fun y hy => ?_ | refine zL ?_ | refine zS ?_ | refine zA fun _ => ?_ | refine zV ?_ | refine zC ?_ | refine zG ?_ | refine zU ?_ | refine zG0 ?_ | refine zU0 ?_ | refine zF ?_)
      | ((with_reducible refine acall_id ?_); refine ACall.val hC rfl rfl ?_)
      | ((with_reducible refine acall_id ?_); refine ACall.val hC2 rfl rfl ?_)
      | ((with_reducible refine acall_id ?_); refine ACall.val hB rfl rfl ?_)
      | ((with_reducible refine acall_id ?_); refine ACall.val hB2 rfl rfl ?_)
      | ((with_reducible refine acall_id ?_); refine ACall.val awake_c rfl rfl ?_)
      | with_reducible (first | refine zX ?_ | refine zD fun _ => ?_ | refine zD0 ?_ | refine zN ?_ | refine zF0 ?_ | refine zX0 ?_ | refine z1 ?_ | refine z2 ?_ | refine z3 ?_ | refine z4 ?_ | refine z5 ?_ | refine z6 ?_ | refine z7 ?_ | refine z8 ?_ | refine y1 ?_ | refine y2 ?_ | refine y3 ?_ | refine y4 ?_ | refine y5 ?_ | refine y6 ?_ | refine y7 ?_ | refine y8 ?_ | refine Rt.p (fun _ => ?_) fun _ => ?_)
      | ((with_reducible apply w_ixM); (focus exact rfl); (focus exact rfl); case' hk => intro y hy) | ((with_reducible (first | apply w_val | apply q_ends)); (focus exact rfl)))
    all_goals first | rfl | (exfalso; clear hC hC2 hB hB2 hsub hin hlen0 hk hk2 hsz; simp [negB] at *; done) | (exfalso; clear hC hC2 hB hB2 hsub hin hlen0 hk hk2 hsz; simp [negB] at *; omega) | (exfalso; clear hC hC2 hB hB2 hsub hin hlen0 hk hk2 hsz; generalize (okL gs rs).length = N at *; generalize (okL gs (rs ++ [⟨rk, ra, rb, 0⟩])).length = M at *; simp [negB] at *; omega)
  · exfalso; have := hin _ k1; rw [h1] at this; cases this
  · rw [h2] at hB; rw [k2] at hB2; have h4 := hlen0 h1; rw [k1] at hC2
    dsimp only [optV] at hB hB2
    repeat' (first
      | with_reducible (first | refine Rd.p ?_ | refine zE ?_ | refine zE0 ?_)
      | with_reducible (first | refine zI fun y hy => ?_ | refine zL ?_ | refine zS ?_ | refine zA fun _ => ?_ | refine zV ?_ | refine zC ?_ | refine zG ?_ | refine zU ?_ | refine zG0 ?_ | refine zU0 ?_ | refine zF ?_)
      | ((with_reducible refine acall_id ?_); refine ACall.val hC rfl rfl ?_)
      | ((with_reducible refine acall_id ?_); refine ACall.val hC2 rfl rfl ?_)
      | ((with_reducible refine acall_id ?_); refine ACall.val hB rfl rfl ?_)
      | ((with_reducible refine acall_id ?_); refine ACall.val hB2 rfl rfl ?_)
      | ((with_reducible refine acall_id ?_); refine ACall.val awake_c rfl rfl ?_)
      | with_reducible (first | refine zX ?_ | refine zD fun _ => ?_ | refine zD0 ?_ | refine zN ?_ | refine zF0 ?_ | refine zX0 ?_ | refine z1 ?_ | refine z2 ?_ | refine z3 ?_ | refine z4 ?_ | refine z5 ?_ | refine z6 ?_ | refine z7 ?_ | refine z8 ?_ | refine y1 ?_ | refine y2 ?_ | refine y3 ?_ | refine y4 ?_ | refine y5 ?_ | refine y6 ?_ | refine y7 ?_ | refine y8 ?_ | refine Rt.p (fun _ => ?_) fun _ => ?_)
      | ((with_reducible apply w_ixM); (focus exact rfl); (focus exact rfl); case' hk => intro y hy) | ((with_reducible (first | apply w_val | apply q_ends)); (focus exact rfl)))
    all_goals first | rfl | (exfalso; clear hC hC2 hB hB2 hsub hin hlen0 hk hk2 hsz; simp [negB] at *; done) | (exfalso; clear hC hC2 hB hB2 hsub hin hlen0 hk hk2 hsz; simp [negB] at *; omega) | (exfalso; clear hC hC2 hB hB2 hsub hin hlen0 hk hk2 hsz; generalize (okL gs rs).length = N at *; generalize (okL gs (rs ++ [⟨rk, ra, rb, 0⟩])).length = M at *; simp [negB] at *; omega)
  · rw [h2] at hB; rw [k2] at hB2; have h4 := hlen0 h1; have k4 := hlen0 k1
    have h5 := h3 l2 (hin _ k1)
    rw [more_price] at hB2
    dsimp only [optV] at hB hB2
    repeat' (first
      | with_reducible (first | refine Rd.p ?_ | refine zE ?_ | refine zE0 ?_)
      | with_reducible (first | refine zI fun y hy => ?_ | refine zL ?_ | refine zS ?_ | refine zA fun _ => ?_ | refine zV ?_ | refine zC ?_ | refine zG ?_ | refine zU ?_ | refine zG0 ?_ | refine zU0 ?_ | refine zF ?_)
      | ((with_reducible refine acall_id ?_); refine ACall.val hC rfl rfl ?_)
      | ((with_reducible refine acall_id ?_); refine ACall.val hC2 rfl rfl ?_)
      | ((with_reducible refine acall_id ?_); refine ACall.val hB rfl rfl ?_)
      | ((with_reducible refine acall_id ?_); refine ACall.val hB2 rfl rfl ?_)
      | ((with_reducible refine acall_id ?_); refine ACall.val awake_c rfl rfl ?_)
      | with_reducible (first | refine zX ?_ | refine zD fun _ => ?_ | refine zD0 ?_ | refine zN ?_ | refine zF0 ?_ | refine zX0 ?_ | refine z1 ?_ | refine z2 ?_ | refine z3 ?_ | refine z4 ?_ | refine z5 ?_ | refine z6 ?_ | refine z7 ?_ | refine z8 ?_ | refine y1 ?_ | refine y2 ?_ | refine y3 ?_ | refine y4 ?_ | refine y5 ?_ | refine y6 ?_ | refine y7 ?_ | refine y8 ?_ | refine Rt.p (fun _ => ?_) fun _ => ?_)
      | ((with_reducible apply w_ixM); (focus exact rfl); (focus exact rfl); case' hk => intro y hy) | ((with_reducible (first | apply w_val | apply q_ends)); (focus exact rfl)))
    all_goals first | rfl | (exfalso; clear hC hC2 hB hB2 hsub hin hlen0 hk hk2 hsz; simp [negB] at *; done) | (exfalso; clear hC hC2 hB hB2 hsub hin hlen0 hk hk2 hsz; simp [negB] at *; omega) | (exfalso; clear hC hC2 hB hB2 hsub hin hlen0 hk hk2 hsz; generalize (okL gs rs).length = N at *; generalize (okL gs (rs ++ [⟨rk, ra, rb, 0⟩])).length = M at *; simp [negB] at *; omega)
end Go.Abs
