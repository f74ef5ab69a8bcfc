/- A part of the proofs of the laws of this seat: contracts of the functions that they reach, each proved of the program's form in Lean. No condition beyond those that each contract names. -/
import Derived.Test.YtmekfgjlcaonjaaH4
import Derived.Test.YtmekfgjlcaonjaaH3
import Derived.Test.YtmekfgjlcaonjaaH2
import Derived.Test.YtmekfgjlcaonjaaH1
import Derived.Test.YtmekfgjlcaonjaaE9
import Derived.Test.YtmekfgjlcaonjaaE7
import Derived.Test.YtmekfgjlcaonjaaE6
import Derived.Test.YtmekfgjlcaonjaaE5
import Derived.Test.YtmekfgjlcaonjaaC10
import Derived.Test.YtmekfgjlcaonjaaC2
import Derived.Test.YtmekfgjlcaonjaaC1
import Derived.Test.YtmekfgjlcaonjaaB
import Derived.Test.YtmekfgjlcaonjaaE2
import Derived.Test.YtmekfgjlcaonjaaD8
import Derived.Test.YtmekfgjlcaonjaaC19
import Derived.Test.YtmekfgjlcaonjaaC17
import Derived.Test.YtmekfgjlcaonjaaC14
import Derived.Test.YtmekfgjlcaonjaaC13
import Derived.Test.YtmekfgjlcaonjaaC12
import Derived.Test.YtmekfgjlcaonjaaC11
import Derived.Test.YtmekfgjlcaonjaaC9
import Derived.Test.YtmekfgjlcaonjaaC8
import Derived.Test.YtmekfgjlcaonjaaC7
import Derived.Test.YtmekfgjlcaonjaaC5
import Derived.Test.YtmekfgjlcaonjaaC4
import Derived.Test.YtmekfgjlcaonjaaC18
import Derived.Test.YtmekfgjlcaonjaaC16
set_option linter.unusedVariables false
set_option linter.unusedSimpArgs false
set_option maxRecDepth 20000
set_option maxHeartbeats 2000000
namespace Go.Abs
open Go.Proofs
/-- aloeswood/aloeswoodlaw09.StoreFewest -/
def ir12 : IFn :=
  ⟨122, [(2, none)], (.seq (.ops [⟨(some 2), none, (.mov (.k (.bool false)))⟩])
  (.seq (.ops [⟨(some 17), none, (.mov (.t 0))⟩,
    ⟨(some 18), none, (.callF 17 [(.t 17)])⟩,
    ⟨(some 19), none, (.callF 42 [(.t 18), (.k (.int .i64 6))])⟩,
    ⟨(some 3), none, (.new [.nsl, .nsl])⟩,
    ⟨none, none, (.st 2 (.t 3) (.t 19))⟩])
  (.seq (.ops [⟨(some 21), none, (.ld 2 true (.t 3))⟩,
    ⟨(some 22), none, (.callF 46 [(.t 21)])⟩,
    ⟨(some 20), none, (.mov (.t 22))⟩,
    ⟨(some 23), none, (.ext 0 (.t 20))⟩,
    ⟨(some 24), none, (.ext 1 (.t 20))⟩,
    ⟨(some 25), none, (.ext 2 (.t 20))⟩,
    ⟨(some 4), none, (.mov (.t 23))⟩,
    ⟨(some 5), none, (.mov (.t 24))⟩,
    ⟨(some 6), none, (.mov (.t 25))⟩])
  (.seq (.ops [⟨(some 27), none, (.ld 2 true (.t 3))⟩,
    ⟨(some 28), none, (.callF 44 [(.t 27)])⟩,
    ⟨(some 26), none, (.mov (.t 28))⟩,
    ⟨(some 29), none, (.ext 0 (.t 26))⟩,
    ⟨(some 30), none, (.ext 1 (.t 26))⟩,
    ⟨(some 7), none, (.mov (.t 29))⟩,
    ⟨(some 8), none, (.mov (.t 30))⟩])
  (.seq (.ops [⟨(some 32), none, (.ld 2 true (.t 3))⟩,
    ⟨(some 33), none, (.mov (.t 4))⟩,
    ⟨(some 34), none, (.callF 49 [(.t 32), (.t 33)])⟩,
    ⟨(some 31), none, (.mov (.t 34))⟩,
    ⟨(some 35), none, (.ext 0 (.t 31))⟩,
    ⟨(some 36), none, (.ext 1 (.t 31))⟩,
    ⟨(some 37), none, (.ext 2 (.t 31))⟩,
    ⟨(some 38), none, (.ext 3 (.t 31))⟩,
    ⟨(some 9), none, (.mov (.t 35))⟩,
    ⟨(some 10), none, (.mov (.t 36))⟩,
    ⟨(some 11), none, (.mov (.t 37))⟩,
    ⟨(some 12), none, (.mov (.t 38))⟩])
  (.seq (.seq (.ops [⟨(some 39), none, (.mov (.t 6))⟩,
    ⟨(some 40), none, (.bin .neq (.t 39) (.k (.int .i64 0)))⟩,
    ⟨(some 41), none, (.mov (.t 40))⟩,
    ⟨(some 42), (some (41, false)), (.mov (.t 8))⟩,
    ⟨(some 43), (some (41, false)), (.bin .neq (.t 42) (.k (.int .i64 0)))⟩,
    ⟨(some 44), none, (.pick (.t 41) (.k (.bool true)) (.t 43))⟩,
    ⟨(some 45), none, (.mov (.t 44))⟩,
    ⟨(some 46), (some (45, false)), (.mov (.t 12))⟩,
    ⟨(some 47), (some (45, false)), (.bin .neq (.t 46) (.k (.int .i64 0)))⟩,
    ⟨(some 48), none, (.pick (.t 45) (.k (.bool true)) (.t 47))⟩,
    ⟨(some 49), none, (.mov (.t 48))⟩,
    ⟨(some 50), (some (49, false)), (.mov (.t 11))⟩,
    ⟨(some 51), (some (49, false)), (.mov (.t 5))⟩,
    ⟨(some 52), (some (49, false)), (.bin .neq (.t 50) (.t 51))⟩,
    ⟨(some 53), none, (.pick (.t 49) (.k (.bool true)) (.t 52))⟩,
    ⟨(some 54), none, (.mov (.t 53))⟩,
    ⟨(some 55), (some (54, false)), (.mov (.t 4))⟩,
    ⟨(some 56), (some (54, false)), (.len false (.t 55))⟩,
    ⟨(some 57), (some (54, false)), (.flA 1 (.t 3))⟩,
    ⟨(some 58), (some (54, false)), (.ld 1 false (.t 57))⟩,
    ⟨(some 59), (some (54, false)), (.len false (.t 58))⟩,
    ⟨(some 60), (some (54, false)), (.bin .neq (.t 56) (.t 59))⟩,
    ⟨(some 61), none, (.pick (.t 54) (.k (.bool true)) (.t 60))⟩,
    ⟨(some 62), none, (.mov (.t 61))⟩,
    ⟨(some 63), (some (62, false)), (.ld 2 true (.t 3))⟩,
    ⟨(some 64), (some (62, false)), (.mov (.t 4))⟩,
    ⟨(some 65), (some (62, false)), (.callF 50 [(.t 63), (.t 64)])⟩,
    ⟨(some 66), (some (62, false)), (.mov (.t 5))⟩,
    ⟨(some 67), (some (62, false)), (.bin .neq (.t 65) (.t 66))⟩,
    ⟨(some 68), none, (.pick (.t 62) (.k (.bool true)) (.t 67))⟩,
    ⟨(some 69), none, (.mov (.t 68))⟩,
    ⟨(some 70), (some (69, false)), (.mov (.t 5))⟩,
    ⟨(some 71), (some (69, false)), (.bin .eql (.t 70) (.k (.int .i64 0)))⟩,
    ⟨(some 72), (some (69, false)), (.mov (.t 7))⟩,
    ⟨(some 73), (some (69, false)), (.len false (.t 72))⟩,
    ⟨(some 74), (some (69, false)), (.flA 1 (.t 3))⟩,
    ⟨(some 75), (some (69, false)), (.ld 1 false (.t 74))⟩,
    ⟨(some 76), (some (69, false)), (.len false (.t 75))⟩,
    ⟨(some 77), (some (69, false)), (.bin .eql (.t 73) (.t 76))⟩,
    ⟨(some 78), (some (69, false)), (.eqn .bool true (.t 71) (.t 77))⟩,
    ⟨(some 79), none, (.pick (.t 69) (.k (.bool true)) (.t 78))⟩])
  (.cnd (.t 79)
    (.seq (.ops [⟨(some 2), none, (.mov (.k (.bool false)))⟩])
    .ret)
    .skip))
  (.seq (.ops [⟨(some 13), none, (.mov (.k (.bool true)))⟩])
  (.seq (.ops [⟨(some 80), none, (.ld 2 true (.t 3))⟩,
    ⟨(some 81), none, (.mov (.t 4))⟩,
    ⟨(some 82), none, (.len false (.t 81))⟩,
    ⟨(some 83), none, (.callF 51 [(.t 80), (.t 82)])⟩,
    ⟨(some 14), none, (.mov (.t 83))⟩])
  (.seq (.seq (.ops [⟨(some 15), none, (.mov (.k (.int .i64 0)))⟩])
  (.blk 0 (.loop (.seq (.seq (.ops [⟨(some 84), none, (.mov (.t 15))⟩,
        ⟨(some 85), none, (.mov (.t 14))⟩,
        ⟨(some 86), none, (.len false (.t 85))⟩,
        ⟨(some 87), none, (.bin .lss (.t 84) (.t 86))⟩])
      (.cnd (.t 87)
        .skip
        (.exit 0)))
      (.seq (.blk 1 (.seq (.ops [⟨(some 90), none, (.mov (.t 13))⟩,
          ⟨(some 91), none, (.mov (.t 90))⟩,
          ⟨(some 92), (some (91, true)), (.mov (.t 14))⟩,
          ⟨(some 93), (some (91, true)), (.mov (.t 15))⟩,
          ⟨(some 94), (some (91, true)), (.ixA 1 (.t 92) (.t 93))⟩,
          ⟨(some 95), (some (91, true)), (.ld 1 false (.t 94))⟩,
          ⟨(some 96), (some (91, true)), (.mov (.t 4))⟩,
          ⟨(some 97), (some (91, true)), (.callF 40 [(.t 95), (.t 96)])⟩,
          ⟨(some 98), (some (91, true)), (.not (.t 97))⟩,
          ⟨(some 99), none, (.pick (.t 91) (.t 98) (.k (.bool false)))⟩,
          ⟨(some 13), none, (.mov (.t 99))⟩])
        (.seq (.ops [⟨(some 100), none, (.ld 2 true (.t 3))⟩,
          ⟨(some 101), none, (.mov (.t 14))⟩,
          ⟨(some 102), none, (.mov (.t 15))⟩,
          ⟨(some 103), none, (.ixA 1 (.t 101) (.t 102))⟩,
          ⟨(some 104), none, (.ld 1 false (.t 103))⟩,
          ⟨(some 105), none, (.callF 50 [(.t 100), (.t 104)])⟩,
          ⟨(some 16), none, (.mov (.t 105))⟩])
        (.seq (.ops [⟨(some 106), none, (.mov (.t 16))⟩,
          ⟨(some 107), none, (.mov (.t 5))⟩,
          ⟨(some 108), none, (.bin .lss (.t 106) (.t 107))⟩,
          ⟨(some 109), none, (.mov (.t 108))⟩,
          ⟨(some 110), (some (109, false)), (.mov (.t 13))⟩,
          ⟨(some 111), (some (109, false)), (.mov (.t 110))⟩,
          ⟨(some 112), (some (111, true)), (.mov (.t 16))⟩,
          ⟨(some 113), (some (111, true)), (.mov (.t 5))⟩,
          ⟨(some 114), (some (111, true)), (.bin .eql (.t 112) (.t 113))⟩,
          ⟨(some 115), (some (109, false)), (.pick (.t 111) (.t 114) (.k (.bool false)))⟩,
          ⟨(some 116), none, (.pick (.t 109) (.k (.bool true)) (.t 115))⟩])
        (.cnd (.t 116)
          (.seq (.ops [⟨(some 2), none, (.mov (.k (.bool false)))⟩])
          .ret)
          .skip)))))
      (.ops [⟨(some 88), none, (.mov (.t 15))⟩,
        ⟨(some 89), none, (.bin .add (.t 88) (.k (.int .i64 1)))⟩,
        ⟨(some 15), none, (.mov (.t 89))⟩]))))))
  (.seq (.ops [⟨(some 117), none, (.mov (.t 13))⟩,
    ⟨(some 118), none, (.not (.t 117))⟩,
    ⟨(some 119), none, (.mov (.t 118))⟩,
    ⟨(some 120), (some (119, true)), (.callF 16 [])⟩,
    ⟨(some 121), none, (.pick (.t 119) (.t 120) (.k (.bool false)))⟩,
    ⟨(some 2), none, (.mov (.t 121))⟩])
  .ret))))))))))⟩
def hint12 (P : Program) : Hint := {}
theorem few_in {s : Sea} (he : seaE s = 0) : (fewF s).1.length = s.gs.length ∧ ∀ x ∈ (fewF s).1, 0 ≤ x ∧ x < combF s.ss := by
  have h := few_first he
  have h1 := rgsK_top h.1.mem.1
  have h2 := h.1.mem.2.1
  exact ⟨h1.1, fun x hx => by have := h1.2 x hx; omega⟩
theorem fewest_c (nums : List Int) (hn : nums.length < 2 ^ 62) : Fn0 Try.prog 12 [.slc 1 (iR nums) .non] (fun v => v = .bool true) := by
  refine RawC.walk (H := hint12 Try.prog) ir12 Try.func12 rfl rfl rfl ?_
  unfold ir12
  repeat' (first
    | with_reducible (first | refine Rd.p ?_ | refine w_alt ?_ ?_ | refine zE ?_ | refine zE0 ?_)
    | with_reducible (first | refine zI fun y hy => ?_ | refine zL ?_ | refine zS ?_ | refine zA fun _ => ?_ | refine zV ?_ | refine zC ?_ | refine zG ?_ | refine zU ?_ | refine zG0 ?_ | refine zU0 ?_ | refine zF ?_)
    | ((with_reducible refine acall_id ?_); refine ACall.liftS (boxOf_s nums hn) [] (some 6) rfl rfl rfl trivial (fun _ => rfl) ?_; rintro ⟨gb, w⟩ _ rfl)
    | ((with_reducible refine acall_id ?_); refine ACall.box (seasonOf_c _ _ 6 (by omega)) rfl rfl rfl ?_; rintro _ _ ⟨s, rfl, hE, hgk⟩)
    | with_reducible (first | refine zX ?_ | refine zD fun _ => ?_ | refine zD0 ?_ | refine zN ?_ | refine zF0 ?_ | refine zX0 ?_ | refine z1 ?_ | refine z2 ?_ | refine z3 ?_ | refine z4 ?_ | refine z5 ?_ | refine z6 ?_ | refine z7 ?_ | refine z8 ?_ | refine y1 ?_ | refine y2 ?_ | refine y3 ?_ | refine y4 ?_ | refine y5 ?_ | refine y6 ?_ | refine y7 ?_ | refine y8 ?_ | refine Rt.p (fun _ => ?_) fun _ => ?_)
    | ((with_reducible apply w_ixM); (focus exact rfl); (focus exact rfl); case' hk => intro y hy) | ((with_reducible (first | apply w_val | apply q_ends)); (focus exact rfl)))
  have ok := okS_of hE
  have h4 := ok.s4
  have hgk2 : (s.gs.length : Int) ≤ 6 := hgk
  have q1 : s.ss.length < 1000 := by omega
  have q2 : s.gs.length < 1000 := by omega
  have q3 : ∀ l ∈ s.gs, l.length < 1000 := fun l hl => by have := ok.g12 l hl; omega
  have hF := Fewest_w s q1 q2 q3
  have hP := Plan_w s q1 q2 q3
  have hfi := few_in hE
  have hff := few_first hE
  have hfz := few_zero hE
  have hR := Repeats_s s (fewF s).1 _ (.inr rfl) q1 q2 q3 (by omega)
  have hRv := repV_rp (p := (fewF s).1) hE (by omega) hfi.2
  have hL := repL_w s (fewF s).1 hE (by omega)
  have hplen := (plan_first hE).2.1
  rw [hE] at hF hP
  rw [hRv.1, hRv.2, ← hff.2.1] at hR
  rw [← hff.2.1] at hL
  have hmn : 0 ≤ (fewF s).2 := by rw [hff.2.1]; exact rp_nn s _
  obtain ⟨hfl, hfb⟩ := hfi
  obtain ⟨hff1, hff2, hff3⟩ := hff
  clear hRv
  generalize (repV s (fewF s).1).1 = rv1 at *
  generalize (repV s (fewF s).1).2.1 = rv2 at *
  obtain ⟨b, hb⟩ : ∃ b, b = (fewF s).1 := ⟨_, rfl⟩
  obtain ⟨m, hm⟩ : ∃ m, m = (fewF s).2 := ⟨_, rfl⟩
  rw [← hb] at hF hR hL hfl hfb hff1 hff2
  rw [← hm] at hF hR hL hmn hff1 hff2 hff3 hfz
  clear hb hm
  by_cases hg0 : s.gs = []
  · have hp0 := plans0_s s
    have hbn : b = [] := by rw [hg0] at hfl; exact List.length_eq_zero_iff.1 (by simpa using hfl)
    subst hbn
    have hz : m = 0 := by rw [hff2]; rfl
    subst hz
    have hEq : Fn0 Try.prog 40 [.nsl, .slc 1 (iR []) .non] (fun v => v = .bool true) := RawC.weak (fun _ _ hr => SubL.rel (.cons Sub.nil (.cons (Sub.refl _) .nil)) hr) (by have h := eq_c [] [] (by decide); rw [decide_eq_true rfl] at h; exact h)
    have hRN := repeatsL_c s [] _ (.inl ⟨rfl, rfl⟩) (by simp) q2 q3
    rw [repT_rp hE (by simp)] at hRN
    rw [show rpS s [] = 0 from rfl] at hRN
    have hg00 : s.gs.length = 0 := by rw [hg0]; rfl
    have hb00 : ([] : List Int).length = 0 := rfl
    have hpz : (planF s).length = 0 := by omega
    repeat' (first
      | with_reducible (first | refine Rd.p ?_ | refine w_alt ?_ ?_ | refine zE ?_ | refine zE0 ?_)
      | with_reducible (first | refine zI fun y hy => ?_ | refine zL ?_ | refine zS ?_ | refine zA fun _ => ?_ | refine zV ?_ | refine zC ?_ | refine zG ?_ | refine zU ?_ | refine zG0 ?_ | refine zU0 ?_ | refine zF ?_)
      | ((with_reducible refine acall_id ?_); refine ACall.val hF rfl rfl ?_)
      | ((with_reducible refine acall_id ?_); refine ACall.val hP rfl rfl ?_)
      | ((with_reducible refine acall_id ?_); refine ACall.val hR rfl rfl ?_)
      | ((with_reducible refine acall_id ?_); refine ACall.val hL rfl rfl ?_)
      | ((with_reducible refine acall_id ?_); refine ACall.val hp0 rfl rfl ?_)
      | with_reducible (first | refine zX ?_ | refine zD fun _ => ?_ | refine zD0 ?_ | refine zN ?_ | refine zF0 ?_ | refine zX0 ?_ | refine z1 ?_ | refine z2 ?_ | refine z3 ?_ | refine z4 ?_ | refine z5 ?_ | refine z6 ?_ | refine z7 ?_ | refine z8 ?_ | refine y1 ?_ | refine y2 ?_ | refine y3 ?_ | refine y4 ?_ | refine y5 ?_ | refine y6 ?_ | refine y7 ?_ | refine y8 ?_ | refine Rt.p (fun _ => ?_) fun _ => ?_)
      | ((with_reducible apply w_ixM); (focus exact rfl); (focus exact rfl); case' hk => intro y hy) | ((with_reducible (first | apply w_val | apply q_ends)); (focus exact rfl)))
    have hdd : decide ((0 : Int) = 0) = decide (((planF s).length : Int) = (s.gs.length : Int)) := decide_eq_decide.2 (by omega)
    all_goals try (rename_i hz; exfalso; rw [hdd] at hz; simp [negB] at hz; done)
    refine w_loopK [3, 4, 5, 14] [3] (fun i : Nat => i ≤ 1) (fun i => 1 - i) (fun i => [(15, .int .i64 i), (13, .bool (decide (i = 0)))]) (fun _ => []) 0 (by show (0 : Nat) ≤ 1; omega) ⟨rfl, rfl, trivial⟩ trivial ?_
    rintro i hi e σ
    try dsimp only at hi ⊢
    by_cases hi0 : i = 0
    · subst hi0
      repeat' (first
        | with_reducible (first | refine Rd.p ?_ | refine w_alt ?_ ?_ | refine zE ?_ | refine zE0 ?_)
        | with_reducible (first | refine zI fun y hy => ?_ | refine zL ?_ | refine zS ?_ | refine zA fun _ => ?_ | refine zV ?_ | refine zC ?_ | refine zG ?_ | refine zU ?_ | refine zG0 ?_ | refine zU0 ?_ | refine zF ?_)
        | ((with_reducible refine acall_id ?_); refine ACall.val hEq rfl rfl ?_)
        | ((with_reducible refine acall_id ?_); refine ACall.val hRN rfl rfl ?_)
        | with_reducible (first | refine zX ?_ | refine zD fun _ => ?_ | refine zD0 ?_ | refine zN ?_ | refine zF0 ?_ | refine zX0 ?_ | refine z1 ?_ | refine z2 ?_ | refine z3 ?_ | refine z4 ?_ | refine z5 ?_ | refine z6 ?_ | refine z7 ?_ | refine z8 ?_ | refine y1 ?_ | refine y2 ?_ | refine y3 ?_ | refine y4 ?_ | refine y5 ?_ | refine y6 ?_ | refine y7 ?_ | refine y8 ?_ | refine Rt.p (fun _ => ?_) fun _ => ?_)
        | ((with_reducible apply w_ixM); (focus exact rfl); (focus exact rfl); case' hk => intro y hy) | ((with_reducible (first | apply w_val | apply q_ends)); (focus exact rfl)))
      all_goals first
        | (exfalso; omega)
        | (exfalso; rename_i hz; exact hz (by decide))
        | exact q_loop 1 (by show (1 : Nat) ≤ 1; omega) (by show 1 - 1 < 1 - 0; omega) (slots_cons rfl (slots_cons rfl slots_nil)) trivial (by repeat' (first | exact kept_nil | apply kept_cons | rfl)) (by repeat' (first | exact kept_nil | apply kept_cons | rfl))
    · obtain rfl : i = 1 := by omega
      repeat' (first
        | with_reducible (first | refine Rd.p ?_ | refine w_alt ?_ ?_ | refine zE ?_ | refine zE0 ?_)
        | with_reducible (first | refine zI fun y hy => ?_ | refine zL ?_ | refine zS ?_ | refine zA fun _ => ?_ | refine zV ?_ | refine zC ?_ | refine zG ?_ | refine zU ?_ | refine zG0 ?_ | refine zU0 ?_ | refine zF ?_)
        | ((with_reducible refine acall_id ?_); refine ACall.val wake_s rfl rfl ?_)
        | with_reducible (first | refine zX ?_ | refine zD fun _ => ?_ | refine zD0 ?_ | refine zN ?_ | refine zF0 ?_ | refine zX0 ?_ | refine z1 ?_ | refine z2 ?_ | refine z3 ?_ | refine z4 ?_ | refine z5 ?_ | refine z6 ?_ | refine z7 ?_ | refine z8 ?_ | refine y1 ?_ | refine y2 ?_ | refine y3 ?_ | refine y4 ?_ | refine y5 ?_ | refine y6 ?_ | refine y7 ?_ | refine y8 ?_ | refine Rt.p (fun _ => ?_) fun _ => ?_)
        | ((with_reducible apply w_ixM); (focus exact rfl); (focus exact rfl); case' hk => intro y hy) | ((with_reducible (first | apply w_val | apply q_ends)); (focus exact rfl)))
      all_goals first
        | (exfalso; omega)
        | (exfalso; rename_i hz; revert hz; decide)
        | rfl
  · have hgp : 1 ≤ s.gs.length := List.length_pos_iff.2 hg0
    obtain ⟨A, B, hAB, hmb, hA⟩ := frst_filter (fun q => decide (usedF q ≤ combF s.ss)) hff1 (fun q hq => decide_eq_true hq.1)
    have hPl := plans_s s hE s.gs.length (by omega)
    obtain ⟨L, hL0⟩ : ∃ L, L = plansL s s.gs.length := ⟨_, rfl⟩
    rw [show (rgsK s.gs.length []).filter (fun q => decide (usedF q ≤ combF s.ss)) = L from hL0.symm] at hAB
    rw [← hL0] at hPl
    have hcnt := rgs_cnt s.gs.length [] 0 (by show (0 : Int) ≤ _; omega) (by omega)
    have hpw : 10 ^ s.gs.length ≤ 10 ^ 9 := Nat.pow_le_pow_right (by omega) (by omega)
    have hLl : L.length ≤ 10 ^ 9 := by
      rw [hL0]
      exact Nat.le_trans (List.length_filter_le _ _) (by omega)
    have hLm : ∀ q ∈ L, q.length = s.gs.length ∧ m ≤ rpS s q := fun q hq => by
      rw [hL0] at hq
      have := plansL_mem.1 hq
      exact ⟨(rgsK_top this.1).1, hff3 q this.1 this.2⟩
    have hAn : ∀ q ∈ A, m < rpS s q ∧ q ≠ b := fun q hq => by
      have h1 := hA q hq
      have h2 : q ∈ L := by rw [hAB]; simp [hq]
      have h3 : usedF q ≤ combF s.ss := (plansL_mem.1 (hL0 ▸ h2)).2
      refine ⟨?_, fun h => h1 (h ▸ hmb)⟩
      apply Int.lt_of_not_ge
      exact fun h => h1 ⟨h3, h⟩
    have hfl2 : (b.length : Int) = s.gs.length := by omega
    rw [← hfl] at hPl
    repeat' (first
      | with_reducible (first | refine Rd.p ?_ | refine w_alt ?_ ?_ | refine zE ?_ | refine zE0 ?_)
      | with_reducible (first | refine zI fun y hy => ?_ | refine zL ?_ | refine zS ?_ | refine zA fun _ => ?_ | refine zV ?_ | refine zC ?_ | refine zG ?_ | refine zU ?_ | refine zG0 ?_ | refine zU0 ?_ | refine zF ?_)
      | ((with_reducible refine acall_id ?_); refine ACall.val hF rfl rfl ?_)
      | ((with_reducible refine acall_id ?_); refine ACall.val hP rfl rfl ?_)
      | ((with_reducible refine acall_id ?_); refine ACall.val hR rfl rfl ?_)
      | ((with_reducible refine acall_id ?_); refine ACall.val hL rfl rfl ?_)
      | ((with_reducible refine acall_id ?_); refine ACall.val hPl rfl rfl ?_)
      | with_reducible (first | refine zX ?_ | refine zD fun _ => ?_ | refine zD0 ?_ | refine zN ?_ | refine zF0 ?_ | refine zX0 ?_ | refine z1 ?_ | refine z2 ?_ | refine z3 ?_ | refine z4 ?_ | refine z5 ?_ | refine z6 ?_ | refine z7 ?_ | refine z8 ?_ | refine y1 ?_ | refine y2 ?_ | refine y3 ?_ | refine y4 ?_ | refine y5 ?_ | refine y6 ?_ | refine y7 ?_ | refine y8 ?_ | refine Rt.p (fun _ => ?_) fun _ => ?_)
      | ((with_reducible apply w_ixM); (focus exact rfl); (focus exact rfl); case' hk => intro y hy) | ((with_reducible (first | apply w_val | apply q_ends)); (focus exact rfl)))
    have hdd : decide (m = 0) = decide (((planF s).length : Int) = (s.gs.length : Int)) := decide_eq_decide.2 (by rw [hfz]; omega)
    all_goals try (rename_i hz; exfalso; rw [hdd] at hz; simp [negB] at hz; done)
    have hAl := congrArg List.length hAB
    rw [List.length_append, List.length_cons] at hAl
    refine w_loopK [3, 4, 5, 14] [3] (fun x : List (List Int) × List (List Int) × Bool => L = x.1 ++ x.2.1 ∧ (x.2.2 = true → ∃ A2, A = x.1 ++ A2)) (fun x => x.2.1.length) (fun x => [(15, .int .i64 x.1.length), (13, .bool x.2.2)]) (fun _ => []) ([], L, true) ⟨rfl, fun _ => ⟨A, rfl⟩⟩ ⟨rfl, rfl, trivial⟩ trivial ?_
    rintro ⟨pre, post, f⟩ ⟨hpp, hf⟩ e σ
    dsimp only at hpp hf ⊢
    have hlen := congrArg List.length hpp
    rw [List.length_append] at hlen
    rcases post with _ | ⟨q, post⟩
    · simp only [List.length_nil] at hlen
      cases f with
      | true =>
        exfalso
        obtain ⟨A2, hA2⟩ := hf rfl
        have := congrArg List.length hA2
        rw [List.length_append] at this
        omega
      | false =>
        repeat' (first
          | with_reducible (first | refine Rd.p ?_ | refine w_alt ?_ ?_ | refine zE ?_ | refine zE0 ?_)
          | with_reducible (first | refine zI fun y hy => ?_ | refine zL ?_ | refine zS ?_ | refine zA fun _ => ?_ | refine zV ?_ | refine zC ?_ | refine zG ?_ | refine zU ?_ | refine zG0 ?_ | refine zU0 ?_ | refine zF ?_)
          | ((with_reducible refine acall_id ?_); refine ACall.val wake_s rfl rfl ?_)
          | with_reducible (first | refine zX ?_ | refine zD fun _ => ?_ | refine zD0 ?_ | refine zN ?_ | refine zF0 ?_ | refine zX0 ?_ | refine z1 ?_ | refine z2 ?_ | refine z3 ?_ | refine z4 ?_ | refine z5 ?_ | refine z6 ?_ | refine z7 ?_ | refine z8 ?_ | refine y1 ?_ | refine y2 ?_ | refine y3 ?_ | refine y4 ?_ | refine y5 ?_ | refine y6 ?_ | refine y7 ?_ | refine y8 ?_ | refine Rt.p (fun _ => ?_) fun _ => ?_)
          | ((with_reducible apply w_ixM); (focus exact rfl); (focus exact rfl); case' hk => intro y hy) | ((with_reducible (first | apply w_val | apply q_ends)); (focus exact rfl)))
        all_goals first
          | (exfalso; omega)
          | rfl
    · simp only [List.length_cons] at hlen
      have hq := hLm q (by rw [hpp]; simp)
      have hgq : L[pre.length]? = some q := by rw [hpp]; simp
      have hLq := repL_w s q hE (by omega)
      have hEq := eq_c q b (by omega)
      cases f with
      | false =>
        have hr := hq.2
        generalize rpS s q = r at hLq hr
        repeat' (first
          | with_reducible (first | refine Rd.p ?_ | refine w_alt ?_ ?_ | refine zE ?_ | refine zE0 ?_)
          | (refine w_ixE (f := fun l => [AV.slc 1 (iR l) .non]) hgq rfl rfl ?_)
          | with_reducible (first | refine zI fun y hy => ?_ | refine zL ?_ | refine zS ?_ | refine zA fun _ => ?_ | refine zV ?_ | refine zC ?_ | refine zG ?_ | refine zU ?_ | refine zG0 ?_ | refine zU0 ?_ | refine zF ?_)
          | ((with_reducible refine acall_id ?_); refine ACall.val hLq rfl rfl ?_)
          | with_reducible (first | refine zX ?_ | refine zD fun _ => ?_ | refine zD0 ?_ | refine zN ?_ | refine zF0 ?_ | refine zX0 ?_ | refine z1 ?_ | refine z2 ?_ | refine z3 ?_ | refine z4 ?_ | refine z5 ?_ | refine z6 ?_ | refine z7 ?_ | refine z8 ?_ | refine y1 ?_ | refine y2 ?_ | refine y3 ?_ | refine y4 ?_ | refine y5 ?_ | refine y6 ?_ | refine y7 ?_ | refine y8 ?_ | refine Rt.p (fun _ => ?_) fun _ => ?_)
          | ((with_reducible apply w_ixM); (focus exact rfl); (focus exact rfl); case' hk => intro y hy) | ((with_reducible (first | apply w_val | apply q_ends)); (focus exact rfl)))
        all_goals first
          | (exfalso; omega)
          | (refine q_loop (pre ++ [q], post, false) ⟨by show L = _; rw [hpp]; simp, fun h => by cases h⟩ (by simp) (slots_cons (by show AV.int .i64 _ = AV.int .i64 _; refine int_eq ?_; simp) (slots_cons rfl slots_nil)) trivial (by repeat' (first | exact kept_nil | apply kept_cons | rfl)) (by repeat' (first | exact kept_nil | apply kept_cons | rfl)))
      | true =>
        obtain ⟨A2, hA2⟩ := hf rfl
        rcases A2 with _ | ⟨a2, A2⟩
        · rw [List.append_nil] at hA2
          have hqb : q = b := by
            rw [hA2, hpp] at hAB
            have := List.append_cancel_left hAB
            exact (List.cons.inj this).1
          subst hqb
          rw [decide_eq_true rfl] at hEq
          rw [← hff2] at hLq
          repeat' (first
            | with_reducible (first | refine Rd.p ?_ | refine w_alt ?_ ?_ | refine zE ?_ | refine zE0 ?_)
            | (refine w_ixE (f := fun l => [AV.slc 1 (iR l) .non]) hgq rfl rfl ?_)
            | with_reducible (first | refine zI fun y hy => ?_ | refine zL ?_ | refine zS ?_ | refine zA fun _ => ?_ | refine zV ?_ | refine zC ?_ | refine zG ?_ | refine zU ?_ | refine zG0 ?_ | refine zU0 ?_ | refine zF ?_)
            | ((with_reducible refine acall_id ?_); refine ACall.val hEq rfl rfl ?_)
            | ((with_reducible refine acall_id ?_); refine ACall.val hLq rfl rfl ?_)
            | with_reducible (first | refine zX ?_ | refine zD fun _ => ?_ | refine zD0 ?_ | refine zN ?_ | refine zF0 ?_ | refine zX0 ?_ | refine z1 ?_ | refine z2 ?_ | refine z3 ?_ | refine z4 ?_ | refine z5 ?_ | refine z6 ?_ | refine z7 ?_ | refine z8 ?_ | refine y1 ?_ | refine y2 ?_ | refine y3 ?_ | refine y4 ?_ | refine y5 ?_ | refine y6 ?_ | refine y7 ?_ | refine y8 ?_ | refine Rt.p (fun _ => ?_) fun _ => ?_)
            | ((with_reducible apply w_ixM); (focus exact rfl); (focus exact rfl); case' hk => intro y hy) | ((with_reducible (first | apply w_val | apply q_ends)); (focus exact rfl)))
          all_goals first
            | (exfalso; omega)
            | (refine q_loop (pre ++ [q], post, false) ⟨by show L = _; rw [hpp]; simp, fun h => by cases h⟩ (by simp) (slots_cons (by show AV.int .i64 _ = AV.int .i64 _; refine int_eq ?_; simp) (slots_cons rfl slots_nil)) trivial (by repeat' (first | exact kept_nil | apply kept_cons | rfl)) (by repeat' (first | exact kept_nil | apply kept_cons | rfl)))
        · have hqb : q = a2 := by
            rw [hA2, hpp, List.append_assoc] at hAB
            have := List.append_cancel_left hAB
            exact (List.cons.inj this).1
          subst hqb
          have hqA := hAn q (by rw [hA2]; simp)
          rw [decide_eq_false hqA.2] at hEq
          have hr := hqA.1
          generalize rpS s q = r at hLq hr
          repeat' (first
            | with_reducible (first | refine Rd.p ?_ | refine w_alt ?_ ?_ | refine zE ?_ | refine zE0 ?_)
            | (refine w_ixE (f := fun l => [AV.slc 1 (iR l) .non]) hgq rfl rfl ?_)
            | with_reducible (first | refine zI fun y hy => ?_ | refine zL ?_ | refine zS ?_ | refine zA fun _ => ?_ | refine zV ?_ | refine zC ?_ | refine zG ?_ | refine zU ?_ | refine zG0 ?_ | refine zU0 ?_ | refine zF ?_)
            | ((with_reducible refine acall_id ?_); refine ACall.val hEq rfl rfl ?_)
            | ((with_reducible refine acall_id ?_); refine ACall.val hLq rfl rfl ?_)
            | with_reducible (first | refine zX ?_ | refine zD fun _ => ?_ | refine zD0 ?_ | refine zN ?_ | refine zF0 ?_ | refine zX0 ?_ | refine z1 ?_ | refine z2 ?_ | refine z3 ?_ | refine z4 ?_ | refine z5 ?_ | refine z6 ?_ | refine z7 ?_ | refine z8 ?_ | refine y1 ?_ | refine y2 ?_ | refine y3 ?_ | refine y4 ?_ | refine y5 ?_ | refine y6 ?_ | refine y7 ?_ | refine y8 ?_ | refine Rt.p (fun _ => ?_) fun _ => ?_)
            | ((with_reducible apply w_ixM); (focus exact rfl); (focus exact rfl); case' hk => intro y hy) | ((with_reducible (first | apply w_val | apply q_ends)); (focus exact rfl)))
          all_goals first
            | (exfalso; omega)
            | (refine q_loop (pre ++ [q], post, true) ⟨by show L = _; rw [hpp]; simp, fun _ => ⟨A2, by rw [hA2]; simp⟩⟩ (by simp) (slots_cons (by show AV.int .i64 _ = AV.int .i64 _; refine int_eq ?_; simp) (slots_cons rfl slots_nil)) trivial (by repeat' (first | exact kept_nil | apply kept_cons | rfl)) (by repeat' (first | exact kept_nil | apply kept_cons | rfl)))
end Go.Abs
