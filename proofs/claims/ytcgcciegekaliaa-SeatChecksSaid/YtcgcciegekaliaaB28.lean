/- A part of the proofs of the laws of this seat: contracts of the functions that they reach, each proved of the program's form in Lean. No condition beyond those that each contract names. -/
import Derived.Test.YtcgcciegekaliaaB27
set_option linter.unusedVariables false
set_option linter.unusedSimpArgs false
set_option maxRecDepth 20000
set_option maxHeartbeats 4000000
/-! ### SeatOrders -/
namespace Go.Abs
open Go.Proofs
/-- aloeswood/aloeswoodlaw08.SeatOrders -/
def ir8 : IFn :=
  ⟨127, [(4, none)], (.seq (.ops [⟨(some 2), none, (.box 2 (.t 0))⟩,
    ⟨(some 4), none, (.mov (.k (.bool false)))⟩])
  (.seq (.seq (.ops [⟨(some 22), none, (.ld 2 true (.t 2))⟩,
    ⟨(some 23), none, (.callF 34 [(.t 22)])⟩])
  (.cnd (.t 23)
    (.seq (.ops [⟨(some 24), none, (.callF 16 [])⟩,
      ⟨(some 4), none, (.mov (.t 24))⟩])
    .ret)
    .skip))
  (.seq (.ops [⟨(some 25), none, (.ld 2 true (.t 2))⟩,
    ⟨(some 26), none, (.mov (.t 1))⟩,
    ⟨(some 27), none, (.callF 17 [(.t 26)])⟩,
    ⟨none, none, (.chk 2 true (.t 2) 25)⟩,
    ⟨(some 28), none, (.callF 29 [(.t 27), (.k (.int .i64 5)), (.k (.int .i64 7))])⟩,
    ⟨none, none, (.chk 2 true (.t 2) 25)⟩,
    ⟨(some 29), none, (.bsl 2 [[.nsl, .nsl], [.nsl, .nsl]] [(0, (.t 25)), (1, (.t 28))])⟩,
    ⟨(some 5), none, (.mov (.t 29))⟩])
  (.seq (.seq (.ops [⟨(some 6), none, (.mov (.k (.int .i64 0)))⟩])
  (.blk 0 (.loop (.seq (.seq (.ops [⟨(some 30), none, (.mov (.t 6))⟩,
        ⟨(some 31), none, (.mov (.t 5))⟩,
        ⟨(some 32), none, (.len false (.t 31))⟩,
        ⟨(some 33), none, (.bin .lss (.t 30) (.t 32))⟩])
      (.cnd (.t 33)
        .skip
        (.exit 0)))
      (.seq (.blk 1 (.seq (.ops [⟨(some 36), none, (.mov (.t 5))⟩,
          ⟨(some 37), none, (.mov (.t 6))⟩,
          ⟨(some 38), none, (.ixA 2 (.t 36) (.t 37))⟩,
          ⟨(some 39), none, (.ld 2 true (.t 38))⟩,
          ⟨(some 40), none, (.callF 30 [(.t 39)])⟩,
          ⟨(some 7), none, (.new [.nsl, .nsl])⟩,
          ⟨none, none, (.st 2 (.t 7) (.t 40))⟩])
        (.seq (.ops [⟨(some 42), none, (.ld 2 true (.t 7))⟩,
          ⟨(some 43), none, (.callF 32 [(.t 42)])⟩,
          ⟨(some 41), none, (.mov (.t 43))⟩,
          ⟨(some 44), none, (.ext 0 (.t 41))⟩,
          ⟨(some 45), none, (.ext 1 (.t 41))⟩,
          ⟨(some 8), none, (.mov (.t 44))⟩,
          ⟨(some 9), none, (.mov (.t 45))⟩])
        (.seq (.ops [⟨(some 47), none, (.mov (.t 5))⟩,
          ⟨(some 48), none, (.mov (.t 6))⟩,
          ⟨(some 49), none, (.ixA 2 (.t 47) (.t 48))⟩,
          ⟨(some 50), none, (.ld 2 true (.t 49))⟩,
          ⟨(some 51), none, (.callF 43 [(.t 50)])⟩,
          ⟨(some 46), none, (.mov (.t 51))⟩,
          ⟨(some 52), none, (.ext 0 (.t 46))⟩,
          ⟨(some 53), none, (.ext 1 (.t 46))⟩,
          ⟨(some 10), none, (.mov (.t 52))⟩,
          ⟨(some 11), none, (.mov (.t 53))⟩])
        (.seq (.ops [⟨(some 55), none, (.ld 2 true (.t 7))⟩,
          ⟨(some 56), none, (.callF 33 [(.t 55)])⟩,
          ⟨(some 54), none, (.mov (.t 56))⟩,
          ⟨(some 57), none, (.ext 0 (.t 54))⟩,
          ⟨(some 58), none, (.ext 1 (.t 54))⟩,
          ⟨(some 59), none, (.ext 2 (.t 54))⟩,
          ⟨(some 12), none, (.mov (.t 57))⟩,
          ⟨(some 13), none, (.mov (.t 58))⟩,
          ⟨(some 14), none, (.mov (.t 59))⟩])
        (.seq (.ops [⟨(some 61), none, (.mov (.t 5))⟩,
          ⟨(some 62), none, (.mov (.t 6))⟩,
          ⟨(some 63), none, (.ixA 2 (.t 61) (.t 62))⟩,
          ⟨(some 64), none, (.ld 2 true (.t 63))⟩,
          ⟨(some 65), none, (.callF 44 [(.t 64)])⟩,
          ⟨(some 60), none, (.mov (.t 65))⟩,
          ⟨(some 66), none, (.ext 0 (.t 60))⟩,
          ⟨(some 67), none, (.ext 1 (.t 60))⟩,
          ⟨(some 68), none, (.ext 2 (.t 60))⟩,
          ⟨(some 15), none, (.mov (.t 66))⟩,
          ⟨(some 16), none, (.mov (.t 67))⟩,
          ⟨(some 17), none, (.mov (.t 68))⟩])
        (.seq (.ops [⟨(some 70), none, (.ld 2 true (.t 7))⟩,
          ⟨(some 71), none, (.callF 45 [(.t 70)])⟩,
          ⟨(some 69), none, (.mov (.t 71))⟩,
          ⟨(some 72), none, (.ext 0 (.t 69))⟩,
          ⟨(some 73), none, (.ext 1 (.t 69))⟩,
          ⟨(some 18), none, (.mov (.t 72))⟩,
          ⟨(some 19), none, (.mov (.t 73))⟩])
        (.seq (.ops [⟨(some 75), none, (.mov (.t 5))⟩,
          ⟨(some 76), none, (.mov (.t 6))⟩,
          ⟨(some 77), none, (.ixA 2 (.t 75) (.t 76))⟩,
          ⟨(some 78), none, (.ld 2 true (.t 77))⟩,
          ⟨(some 79), none, (.callF 46 [(.t 78)])⟩,
          ⟨(some 74), none, (.mov (.t 79))⟩,
          ⟨(some 80), none, (.ext 0 (.t 74))⟩,
          ⟨(some 81), none, (.ext 1 (.t 74))⟩,
          ⟨(some 20), none, (.mov (.t 80))⟩,
          ⟨(some 21), none, (.mov (.t 81))⟩])
        (.seq (.ops [⟨(some 82), none, (.mov (.t 8))⟩,
          ⟨(some 83), none, (.mov (.t 10))⟩,
          ⟨(some 84), none, (.bin .neq (.t 82) (.t 83))⟩,
          ⟨(some 85), none, (.mov (.t 84))⟩,
          ⟨(some 86), (some (85, false)), (.mov (.t 9))⟩,
          ⟨(some 87), (some (85, false)), (.mov (.t 11))⟩,
          ⟨(some 88), (some (85, false)), (.bin .neq (.t 86) (.t 87))⟩,
          ⟨(some 89), none, (.pick (.t 85) (.k (.bool true)) (.t 88))⟩,
          ⟨(some 90), none, (.mov (.t 89))⟩,
          ⟨(some 91), (some (90, false)), (.mov (.t 13))⟩,
          ⟨(some 92), (some (90, false)), (.mov (.t 16))⟩,
          ⟨(some 93), (some (90, false)), (.bin .neq (.t 91) (.t 92))⟩,
          ⟨(some 94), none, (.pick (.t 90) (.k (.bool true)) (.t 93))⟩,
          ⟨(some 95), none, (.mov (.t 94))⟩,
          ⟨(some 96), (some (95, false)), (.mov (.t 14))⟩,
          ⟨(some 97), (some (95, false)), (.mov (.t 17))⟩,
          ⟨(some 98), (some (95, false)), (.bin .neq (.t 96) (.t 97))⟩,
          ⟨(some 99), none, (.pick (.t 95) (.k (.bool true)) (.t 98))⟩,
          ⟨(some 100), none, (.mov (.t 99))⟩,
          ⟨(some 101), (some (100, false)), (.mov (.t 19))⟩,
          ⟨(some 102), (some (100, false)), (.mov (.t 21))⟩,
          ⟨(some 103), (some (100, false)), (.bin .neq (.t 101) (.t 102))⟩,
          ⟨(some 104), none, (.pick (.t 100) (.k (.bool true)) (.t 103))⟩,
          ⟨(some 105), none, (.mov (.t 104))⟩,
          ⟨(some 106), (some (105, false)), (.mov (.t 12))⟩,
          ⟨(some 107), (some (105, false)), (.mov (.t 15))⟩,
          ⟨(some 108), (some (105, false)), (.callF 24 [(.t 106), (.t 107)])⟩,
          ⟨(some 109), (some (105, false)), (.not (.t 108))⟩,
          ⟨(some 110), none, (.pick (.t 105) (.k (.bool true)) (.t 109))⟩,
          ⟨(some 111), none, (.mov (.t 110))⟩,
          ⟨(some 112), (some (111, false)), (.mov (.t 18))⟩,
          ⟨(some 113), (some (111, false)), (.mov (.t 20))⟩,
          ⟨(some 114), (some (111, false)), (.callF 47 [(.t 112), (.t 113)])⟩,
          ⟨(some 115), (some (111, false)), (.not (.t 114))⟩,
          ⟨(some 116), none, (.pick (.t 111) (.k (.bool true)) (.t 115))⟩,
          ⟨(some 117), none, (.mov (.t 116))⟩,
          ⟨(some 118), (some (117, false)), (.ld 2 true (.t 7))⟩,
          ⟨(some 119), (some (117, false)), (.mov (.t 5))⟩,
          ⟨(some 120), (some (117, false)), (.mov (.t 6))⟩,
          ⟨(some 121), (some (117, false)), (.ixA 2 (.t 119) (.t 120))⟩,
          ⟨(some 122), (some (117, false)), (.ld 2 true (.t 121))⟩,
          ⟨(some 123), (some (117, false)), (.callF 41 [(.t 118), (.t 122)])⟩,
          ⟨(some 124), (some (117, false)), (.not (.t 123))⟩,
          ⟨(some 125), none, (.pick (.t 117) (.k (.bool true)) (.t 124))⟩])
        (.cnd (.t 125)
          (.seq (.ops [⟨(some 4), none, (.mov (.k (.bool false)))⟩])
          .ret)
          .skip))))))))))
      (.ops [⟨(some 34), none, (.mov (.t 6))⟩,
        ⟨(some 35), none, (.bin .add (.t 34) (.k (.int .i64 1)))⟩,
        ⟨(some 6), none, (.mov (.t 35))⟩]))))))
  (.seq (.ops [⟨(some 126), none, (.callF 16 [])⟩,
    ⟨(some 4), none, (.mov (.t 126))⟩])
  .ret)))))⟩
def hint8 (P : Program) : Hint := {}

theorem bestP_len (gs : List Guest) (rs : List Rule) : ((bestP gs rs).1.getD []).length < 1000 := by
  by_cases h : pErr gs rs = 0
  · rcases bestP_cases h with ⟨_, h2⟩ | ⟨l, h1, h2, _⟩
    · rw [h2]; simp
    · have := (perm_of (List.mem_filter.1 h1).1).len
      have := (pOK_of h).g7
      rw [h2]; simp; omega
  · rw [bestP, if_neg h]; simp
theorem sureP_len (gs : List Guest) (rs : List Rule) : ((sureP gs rs).1.getD []).length < 1000 ∧ ∀ l ∈ (sureP gs rs).1.getD [], l.length < 1000 := by
  by_cases h : pErr gs rs = 0
  · have := (pOK_of h).g7
    rw [sureP, if_pos h]
    split
    · simp
    · refine ⟨by simp [sureR]; omega, fun l hl => ?_⟩
      simp only [Option.getD_some, sureR, List.mem_map] at hl
      obtain ⟨a, _, rfl⟩ := hl
      simp; omega
  · rw [sureP, if_neg h]; simp
abbrev optSL (o : Option (List (List Int))) : AV := .slc 1 (llR (o.getD [])) .non
theorem sub_optLL : ∀ o, Sub (optLL o) (optSL o)
  | none => Sub.nil
  | some _ => Sub.refl _
theorem ACall.eqLO {a b : Option (List (List Int))} {σ : Sig} {d : Nat} {Q : AV → Sig → Prop} (h : (a.getD []).length < 2 ^ 62) (h2 : ∀ l ∈ a.getD [], l.length < 2 ^ 62) (hQ : Q (.bool (decide (a.getD [] = b.getD []))) σ) : ACall Try.prog 47 [optLL a, optLL b] σ d Q :=
  ACall.wval (args' := [optSL a, optSL b]) (.cons (sub_optLL a) (.cons (sub_optLL b) .nil)) (eqLists_c (a.getD []) (b.getD []) h h2) rfl rfl hQ
abbrev PQ := List Guest × List Rule
abbrev PQ.row (p : PQ) : List AV := [.slc 5 (gR p.1) .non, .slc 4 (rR p.2) .non]
theorem seatOrders_c (gs : List Guest) (rs : List Rule) (nums : List Int) (hg : gs.length < 2 ^ 63) (hn : nums.length < 2 ^ 62) :
    Fn0 Try.prog 8 [pA gs rs, .slc 1 (iR nums) .non] (fun v => v = .bool true) := by
  have hbig := big_c gs rs hg
  cases hb : bigB gs rs with
  | true =>
    rw [hb] at hbig
    refine RawC.walk (H := hint8 Try.prog) ir8 Try.func8 rfl rfl rfl ?_
    unfold ir8
    repeat' (first
      | with_reducible (first | refine Rd.p ?_ | refine zE ?_ | refine zE0 ?_)
      | with_reducible (first | refine zI fun y hy => ?_ | refine zL ?_ | refine zS ?_ | refine zA fun _ => ?_ | refine zV ?_ | refine zC ?_ | refine zG ?_ | refine zU ?_ | refine zG0 ?_ | refine zU0 ?_ | refine zF ?_)
      | ((with_reducible refine acall_id ?_); refine ACall.val hbig rfl rfl ?_)
      | ((with_reducible refine acall_id ?_); refine ACall.val awake_c rfl rfl ?_)
      | with_reducible (first | refine zX ?_ | refine zD fun _ => ?_ | refine zD0 ?_ | refine zN ?_ | refine zF0 ?_ | refine zX0 ?_ | refine z1 ?_ | refine z2 ?_ | refine z3 ?_ | refine z4 ?_ | refine z5 ?_ | refine z6 ?_ | refine z7 ?_ | refine z8 ?_ | refine y1 ?_ | refine y2 ?_ | refine y3 ?_ | refine y4 ?_ | refine y5 ?_ | refine y6 ?_ | refine y7 ?_ | refine y8 ?_ | refine Rt.p (fun _ => ?_) fun _ => ?_)
      | ((with_reducible apply w_ixM); (focus exact rfl); (focus exact rfl); case' hk => intro y hy) | ((with_reducible (first | apply w_val | apply q_ends)); (focus exact rfl)))
    rfl
  | false =>
    rw [hb] at hbig
    simp only [bigB, Bool.or_eq_false_iff, Bool.and_eq_false_iff, decide_eq_false_iff_not] at hb
    obtain ⟨hlong, h16, _⟩ := hb
    obtain ⟨hl14, hl40⟩ := longB_f hlong
    refine RawC.walk (H := hint8 Try.prog) ir8 Try.func8 rfl rfl rfl ?_
    unfold ir8
    repeat' (first
      | with_reducible (first | refine Rd.p ?_ | refine zE ?_ | refine zE0 ?_)
      | with_reducible (first | refine zI fun y hy => ?_ | refine zL ?_ | refine zS ?_ | refine zA fun _ => ?_ | refine zV ?_ | refine zC ?_ | refine zG ?_ | refine zU ?_ | refine zG0 ?_ | refine zU0 ?_ | refine zF ?_)
      | ((with_reducible refine acall_id ?_); refine ACall.val hbig rfl rfl ?_)
      | ((with_reducible refine acall_id ?_); refine ACall.liftS (boxOf_s nums hn) [] (some 6) rfl rfl rfl trivial (fun _ => rfl) ?_; rintro ⟨gb, w⟩ _ rfl)
      | ((with_reducible refine acall_id ?_); refine ACall.box (partyOf_c _ _ 5 7 (by omega) (by omega)) rfl rfl rfl ?_; rintro _ _ ⟨mg, mr, rfl, hm⟩)
      | with_reducible (first | refine zX ?_ | refine zD fun _ => ?_ | refine zD0 ?_ | refine zN ?_ | refine zF0 ?_ | refine zX0 ?_ | refine z1 ?_ | refine z2 ?_ | refine z3 ?_ | refine z4 ?_ | refine z5 ?_ | refine z6 ?_ | refine z7 ?_ | refine z8 ?_ | refine y1 ?_ | refine y2 ?_ | refine y3 ?_ | refine y4 ?_ | refine y5 ?_ | refine y6 ?_ | refine y7 ?_ | refine y8 ?_ | refine Rt.p (fun _ => ?_) fun _ => ?_)
      | ((with_reducible apply w_ixM); (focus exact rfl); (focus exact rfl); case' hk => intro y hy) | ((with_reducible (first | apply w_val | apply q_ends)); (focus exact rfl)))
    have hps : ∀ p ∈ [((gs, rs) : PQ), (mg, mr)], p.1.length ≤ 14 ∧ (∀ g ∈ p.1, g.name.size ≤ 40) ∧ p.2.length ≤ 16 := by
      intro p hp
      simp only [List.mem_cons, List.not_mem_nil, or_false] at hp
      rcases hp with rfl | rfl
      · exact ⟨hl14, hl40, by dsimp only; omega⟩
      · have g1 := hm.gn
        have g2 := hm.rn
        exact ⟨by dsimp only; omega, fun g hg => by have := (madeG_ok hm.g).2 g hg; omega, by dsimp only; omega⟩
    generalize hqe : [((gs, rs) : PQ), (mg, mr)] = ps at hps
    have hpl : ps.length = 2 := by rw [← hqe]; rfl
    refine w_loopK [] [] (fun k : Nat => k ≤ 2) (fun k => 2 - k) (fun k => [(6, .int .i64 k), (5, .slc 2 (ps.map PQ.row) .full)]) (fun _ => []) 0 (by omega) ⟨rfl, by subst hqe; rfl, trivial⟩ trivial ?_
    rintro k hk e σ
    by_cases hk2 : k < 2
    case neg =>
      repeat' (first
        | with_reducible (first | refine Rd.p ?_ | refine zE ?_ | refine zE0 ?_)
        | with_reducible (first | refine zI fun y hy => ?_ | refine zL ?_ | refine zS ?_ | refine zA fun _ => ?_ | refine zV ?_ | refine zC ?_ | refine zG ?_ | refine zU ?_ | refine zG0 ?_ | refine zU0 ?_ | refine zF ?_)
        | ((with_reducible refine acall_id ?_); refine ACall.val awake_c rfl rfl ?_)
        | with_reducible (first | refine zX ?_ | refine zD fun _ => ?_ | refine zD0 ?_ | refine zN ?_ | refine zF0 ?_ | refine zX0 ?_ | refine z1 ?_ | refine z2 ?_ | refine z3 ?_ | refine z4 ?_ | refine z5 ?_ | refine z6 ?_ | refine z7 ?_ | refine z8 ?_ | refine y1 ?_ | refine y2 ?_ | refine y3 ?_ | refine y4 ?_ | refine y5 ?_ | refine y6 ?_ | refine y7 ?_ | refine y8 ?_ | refine Rt.p (fun _ => ?_) fun _ => ?_)
        | ((with_reducible apply w_ixM); (focus exact rfl); (focus exact rfl); case' hk => intro y hy) | ((with_reducible (first | apply w_val | apply q_ends)); (focus exact rfl)))
      rfl
    obtain ⟨p, hp⟩ : ∃ p, ps[((k : Nat) : Int).toNat]? = some p := ⟨ps[k], by simp [hpl, hk2]⟩
    obtain ⟨q1, q2, q3⟩ := hps p (List.mem_of_getElem? hp)
    have hsz : ∀ g ∈ p.1, g.name.size ≤ 1000 := fun g hg => by have := q2 g hg; omega
    have hC := Count_c p.1 p.2 (by omega) (by omega) hsz
    have hC2 := rCount_c p.1 p.2 (by omega) (by omega) hsz
    have hB := Best_c p.1 p.2 (by omega) (by omega) hsz
    have hB2 := rBest_c p.1 p.2 (by omega) (by omega) hsz
    have hS := Sure_c p.1 p.2 (by omega) (by omega) hsz
    have hS2 := rSure_c p.1 p.2 (by omega) (by omega) hsz
    have hOw := ownParty_c p.1 p.2 (by omega) (by omega)
    have hEP := eqParties_c p.1 p.2 p.1 p.2 (by omega) (by omega)
    rw [decide_eq_true ⟨rfl, rfl⟩] at hEP
    have hbl := bestP_len p.1 p.2
    have hsl := sureP_len p.1 p.2
    generalize (if pErr p.1 p.2 = 0 then ((okL p.1 p.2).length : Int) else 0) = cnt at hC hC2
    generalize pErr p.1 p.2 = pe at hC hC2
    generalize bestP p.1 p.2 = bp at hB hB2 hbl
    generalize sureP p.1 p.2 = sp at hS hS2 hsl
    obtain ⟨o, bc, be⟩ := bp
    obtain ⟨so, se⟩ := sp
    have hbl2 : (o.getD []).length < 2 ^ 62 := by dsimp only at hbl; omega
    have hsl2 : (so.getD []).length < 2 ^ 62 := by have := hsl.1; dsimp only at this; omega
    have hsl3 : ∀ l ∈ so.getD [], l.length < 2 ^ 62 := fun l hl => by have := hsl.2 l hl; omega
    cases o <;> cases so
    all_goals
      dsimp only [optV, optLL] at hB hB2 hS hS2
      repeat' (first
        | with_reducible (first | refine Rd.p ?_ | refine zE ?_ | refine zE0 ?_)
        | (with_reducible refine zK hp ?_)
        | with_reducible (first | refine zI fun y hy => ?_ | refine zL ?_ | refine zS ?_ | refine zA fun _ => ?_ | refine zV ?_ | refine zC ?_ | refine zG ?_ | refine zU ?_ | refine zG0 ?_ | refine zU0 ?_ | refine zF ?_)
        | ((with_reducible refine acall_id ?_); refine ACall.val hOw rfl rfl ?_)
        | ((with_reducible refine acall_id ?_); refine ACall.val hC rfl rfl ?_)
        | ((with_reducible refine acall_id ?_); refine ACall.val hC2 rfl rfl ?_)
        | ((with_reducible refine acall_id ?_); refine ACall.val hB rfl rfl ?_)
        | ((with_reducible refine acall_id ?_); refine ACall.val hB2 rfl rfl ?_)
        | ((with_reducible refine acall_id ?_); refine ACall.val hS rfl rfl ?_)
        | ((with_reducible refine acall_id ?_); refine ACall.val hS2 rfl rfl ?_)
        | ((with_reducible refine acall_id ?_); refine ACall.val hEP rfl rfl ?_)
        | ((with_reducible refine acall_id ?_); (first | refine ACall.eqO (a := none) (b := none) hbl2 ?_ | refine ACall.eqO (a := some _) (b := some _) hbl2 ?_))
        | ((with_reducible refine acall_id ?_); (first | refine ACall.eqLO (a := none) (b := none) hsl2 hsl3 ?_ | refine ACall.eqLO (a := some _) (b := some _) hsl2 hsl3 ?_))
        | with_reducible (first | refine zX ?_ | refine zD fun _ => ?_ | refine zD0 ?_ | refine zN ?_ | refine zF0 ?_ | refine zX0 ?_ | refine z1 ?_ | refine z2 ?_ | refine z3 ?_ | refine z4 ?_ | refine z5 ?_ | refine z6 ?_ | refine z7 ?_ | refine z8 ?_ | refine y1 ?_ | refine y2 ?_ | refine y3 ?_ | refine y4 ?_ | refine y5 ?_ | refine y6 ?_ | refine y7 ?_ | refine y8 ?_ | refine Rt.p (fun _ => ?_) fun _ => ?_)
        | ((with_reducible apply w_ixM); (focus exact rfl); (focus exact rfl); case' hk => intro y hy) | ((with_reducible (first | apply w_val | apply q_ends)); (focus exact rfl)))
      refine zQ (k + 1) ?_ ?_
      · omega
      · omega
end Go.Abs
