/- A part of the proofs of the laws of this seat: contracts of the functions that they reach, each proved of the program's form in Lean. No condition beyond those that each contract names. -/
import Derived.Test.YtcgcciegekaliaaB30
set_option linter.unusedVariables false
set_option linter.unusedSimpArgs false
set_option maxRecDepth 20000
set_option maxHeartbeats 4000000
/-! ### SeatChecks -/
namespace Go.Abs
open Go.Proofs
/-- aloeswood/aloeswoodlaw08.SeatChecks -/
def ir6 : IFn :=
  ⟨123, [(6, none)], (.seq (.ops [⟨(some 3), none, (.box 2 (.t 0))⟩,
    ⟨(some 6), none, (.mov (.k (.bool false)))⟩])
  (.seq (.seq (.ops [⟨(some 20), none, (.ld 2 true (.t 3))⟩,
    ⟨(some 21), none, (.callF 34 [(.t 20)])⟩,
    ⟨(some 22), none, (.mov (.t 21))⟩,
    ⟨(some 23), (some (22, false)), (.mov (.t 1))⟩,
    ⟨(some 24), (some (22, false)), (.len false (.t 23))⟩,
    ⟨(some 25), (some (22, false)), (.bin .gtr (.t 24) (.k (.int .i64 20)))⟩,
    ⟨(some 26), none, (.pick (.t 22) (.k (.bool true)) (.t 25))⟩])
  (.cnd (.t 26)
    (.seq (.ops [⟨(some 27), none, (.callF 16 [])⟩,
      ⟨(some 6), none, (.mov (.t 27))⟩])
    .ret)
    .skip))
  (.seq (.ops [⟨(some 28), none, (.mov (.t 2))⟩,
    ⟨(some 29), none, (.callF 17 [(.t 28)])⟩,
    ⟨(some 7), none, (.mov (.t 29))⟩])
  (.seq (.ops [⟨(some 30), none, (.mov (.t 7))⟩,
    ⟨(some 31), none, (.callF 29 [(.t 30), (.k (.int .i64 7)), (.k (.int .i64 12))])⟩,
    ⟨(some 8), none, (.new [.nsl, .nsl])⟩,
    ⟨none, none, (.st 2 (.t 8) (.t 31))⟩])
  (.seq (.ops [⟨(some 32), none, (.ld 2 true (.t 3))⟩,
    ⟨(some 33), none, (.ld 2 true (.t 8))⟩,
    ⟨(some 34), none, (.ld 2 true (.t 8))⟩,
    ⟨(some 35), none, (.bsl 2 [[.nsl, .nsl], [.nsl, .nsl], [.nsl, .nsl]] [(0, (.t 32)), (1, (.t 33)), (2, (.t 34))])⟩,
    ⟨(some 36), none, (.mov (.t 1))⟩,
    ⟨(some 37), none, (.mov (.t 7))⟩,
    ⟨(some 38), none, (.flA 0 (.t 8))⟩,
    ⟨(some 39), none, (.ld 1 false (.t 38))⟩,
    ⟨(some 40), none, (.len false (.t 39))⟩,
    ⟨(some 42), none, (.mov (.t 1))⟩,
    ⟨(some 41), none, (.callF 35 [(.t 37), (.t 40)])⟩,
    ⟨none, none, (.chk 2 true (.t 3) 32)⟩,
    ⟨none, none, (.chk 2 true (.t 8) 33)⟩,
    ⟨none, none, (.chk 2 true (.t 8) 34)⟩,
    ⟨(some 43), none, (.bsl 1 [[.nsl], [.nsl], [.nsl]] [(0, (.t 36)), (1, (.t 41)), (2, (.t 42))])⟩,
    ⟨(some 9), none, (.mov (.t 35))⟩,
    ⟨(some 10), none, (.mov (.t 43))⟩])
  (.seq (.seq (.ops [⟨(some 11), none, (.mov (.k (.int .i64 0)))⟩])
  (.blk 0 (.loop (.seq (.seq (.ops [⟨(some 44), none, (.mov (.t 11))⟩,
        ⟨(some 45), none, (.mov (.t 9))⟩,
        ⟨(some 46), none, (.len false (.t 45))⟩,
        ⟨(some 47), none, (.bin .lss (.t 44) (.t 46))⟩])
      (.cnd (.t 47)
        .skip
        (.exit 0)))
      (.seq (.blk 1 (.seq (.ops [⟨none, none, (.kil 12)⟩,
          ⟨(some 50), none, (.mov (.t 9))⟩,
          ⟨(some 51), none, (.mov (.t 11))⟩,
          ⟨(some 52), none, (.ixA 2 (.t 50) (.t 51))⟩,
          ⟨(some 53), none, (.ld 2 true (.t 52))⟩,
          ⟨(some 55), none, (.mov (.t 10))⟩,
          ⟨(some 56), none, (.mov (.t 11))⟩,
          ⟨(some 57), none, (.ixA 1 (.t 55) (.t 56))⟩,
          ⟨(some 58), none, (.ld 1 false (.t 57))⟩,
          ⟨(some 54), none, (.callF 30 [(.t 53)])⟩,
          ⟨none, none, (.chk 1 false (.t 57) 58)⟩,
          ⟨(some 59), none, (.callF 36 [(.t 58)])⟩,
          ⟨(some 12), none, (.new [.nsl, .nsl])⟩,
          ⟨none, none, (.st 2 (.t 12) (.t 54))⟩,
          ⟨(some 13), none, (.mov (.t 59))⟩])
        (.seq (.ops [⟨(some 61), none, (.ld 2 true (.t 12))⟩,
          ⟨(some 62), none, (.mov (.t 13))⟩,
          ⟨(some 63), none, (.callF 37 [(.t 61), (.t 62)])⟩,
          ⟨(some 60), none, (.mov (.t 63))⟩,
          ⟨(some 64), none, (.ext 0 (.t 60))⟩,
          ⟨(some 65), none, (.ext 1 (.t 60))⟩,
          ⟨(some 66), none, (.ext 2 (.t 60))⟩,
          ⟨(some 14), none, (.mov (.t 64))⟩,
          ⟨(some 15), none, (.mov (.t 65))⟩,
          ⟨(some 16), none, (.mov (.t 66))⟩])
        (.seq (.ops [⟨(some 68), none, (.mov (.t 9))⟩,
          ⟨(some 69), none, (.mov (.t 11))⟩,
          ⟨(some 70), none, (.ixA 2 (.t 68) (.t 69))⟩,
          ⟨(some 71), none, (.ld 2 true (.t 70))⟩,
          ⟨(some 72), none, (.mov (.t 10))⟩,
          ⟨(some 73), none, (.mov (.t 11))⟩,
          ⟨(some 74), none, (.ixA 1 (.t 72) (.t 73))⟩,
          ⟨(some 75), none, (.ld 1 false (.t 74))⟩,
          ⟨(some 76), none, (.callF 38 [(.t 71), (.t 75)])⟩,
          ⟨(some 67), none, (.mov (.t 76))⟩,
          ⟨(some 77), none, (.ext 0 (.t 67))⟩,
          ⟨(some 78), none, (.ext 1 (.t 67))⟩,
          ⟨(some 79), none, (.ext 2 (.t 67))⟩,
          ⟨(some 17), none, (.mov (.t 77))⟩,
          ⟨(some 18), none, (.mov (.t 78))⟩,
          ⟨(some 19), none, (.mov (.t 79))⟩])
        (.seq (.ops [⟨(some 80), none, (.ld 2 true (.t 12))⟩,
          ⟨(some 82), none, (.mov (.t 9))⟩,
          ⟨(some 83), none, (.mov (.t 11))⟩,
          ⟨(some 84), none, (.ixA 2 (.t 82) (.t 83))⟩,
          ⟨(some 85), none, (.ld 2 true (.t 84))⟩,
          ⟨(some 81), none, (.callF 39 [(.t 80)])⟩,
          ⟨none, none, (.chk 2 true (.t 84) 85)⟩,
          ⟨(some 86), none, (.callF 40 [(.t 85)])⟩,
          ⟨(some 87), none, (.bin .neq (.t 81) (.t 86))⟩,
          ⟨(some 88), none, (.mov (.t 87))⟩,
          ⟨(some 89), (some (88, false)), (.mov (.t 16))⟩,
          ⟨(some 90), (some (88, false)), (.mov (.t 19))⟩,
          ⟨(some 91), (some (88, false)), (.bin .neq (.t 89) (.t 90))⟩,
          ⟨(some 92), none, (.pick (.t 88) (.k (.bool true)) (.t 91))⟩,
          ⟨(some 93), none, (.mov (.t 92))⟩,
          ⟨(some 94), (some (93, false)), (.mov (.t 15))⟩,
          ⟨(some 95), (some (93, false)), (.mov (.t 18))⟩,
          ⟨(some 96), (some (93, false)), (.bin .neq (.t 94) (.t 95))⟩,
          ⟨(some 97), none, (.pick (.t 93) (.k (.bool true)) (.t 96))⟩,
          ⟨(some 98), none, (.mov (.t 97))⟩,
          ⟨(some 99), (some (98, false)), (.mov (.t 14))⟩,
          ⟨(some 100), (some (98, false)), (.mov (.t 17))⟩,
          ⟨(some 101), (some (98, false)), (.callF 24 [(.t 99), (.t 100)])⟩,
          ⟨(some 102), (some (98, false)), (.not (.t 101))⟩,
          ⟨(some 103), none, (.pick (.t 98) (.k (.bool true)) (.t 102))⟩,
          ⟨(some 104), none, (.mov (.t 103))⟩,
          ⟨(some 105), (some (104, false)), (.ld 2 true (.t 12))⟩,
          ⟨(some 106), (some (104, false)), (.mov (.t 9))⟩,
          ⟨(some 107), (some (104, false)), (.mov (.t 11))⟩,
          ⟨(some 108), (some (104, false)), (.ixA 2 (.t 106) (.t 107))⟩,
          ⟨(some 109), (some (104, false)), (.ld 2 true (.t 108))⟩,
          ⟨(some 110), (some (104, false)), (.callF 41 [(.t 105), (.t 109)])⟩,
          ⟨(some 111), (some (104, false)), (.not (.t 110))⟩,
          ⟨(some 112), none, (.pick (.t 104) (.k (.bool true)) (.t 111))⟩,
          ⟨(some 113), none, (.mov (.t 112))⟩,
          ⟨(some 114), (some (113, false)), (.mov (.t 13))⟩,
          ⟨(some 115), (some (113, false)), (.mov (.t 10))⟩,
          ⟨(some 116), (some (113, false)), (.mov (.t 11))⟩,
          ⟨(some 117), (some (113, false)), (.ixA 1 (.t 115) (.t 116))⟩,
          ⟨(some 118), (some (113, false)), (.ld 1 false (.t 117))⟩,
          ⟨(some 119), (some (113, false)), (.callF 24 [(.t 114), (.t 118)])⟩,
          ⟨(some 120), (some (113, false)), (.not (.t 119))⟩,
          ⟨(some 121), none, (.pick (.t 113) (.k (.bool true)) (.t 120))⟩])
        (.cnd (.t 121)
          (.seq (.ops [⟨(some 6), none, (.mov (.k (.bool false)))⟩])
          .ret)
          .skip))))))
      (.ops [⟨(some 48), none, (.mov (.t 11))⟩,
        ⟨(some 49), none, (.bin .add (.t 48) (.k (.int .i64 1)))⟩,
        ⟨(some 11), none, (.mov (.t 49))⟩]))))))
  (.seq (.ops [⟨(some 122), none, (.callF 16 [])⟩,
    ⟨(some 6), none, (.mov (.t 122))⟩])
  .ret)))))))⟩
def hint6 (P : Program) : Hint := {}

theorem priceP_len (gs : List Guest) (rs : List Rule) (l : List Int) : ((priceP gs rs l).1.getD []).length < 1000 := by
  unfold priceP
  split
  · rename_i h
    split
    · have := (pOK_of h).r12
      have h2 := plcF_filter (brP gs l) rs 0
      simp only [Option.getD_some, h2, List.length_map]
      have := List.length_filter_le (fun k => ((rs[k - 0]?).map (brP gs l)).getD false) (List.range' 0 rs.length)
      rw [List.length_range'] at this; omega
    · simp
  · simp
abbrev CQ := PQ × List Int
theorem seatChecks_c (gs : List Guest) (rs : List Rule) (order nums : List Int) (hg : gs.length < 2 ^ 63) (ho : order.length < 2 ^ 62) (hn : nums.length < 2 ^ 62) :
    Fn0 Try.prog 6 [pA gs rs, .slc 1 (iR order) .non, .slc 1 (iR nums) .non] (fun v => v = .bool true) := by
  have hbig := big_c gs rs hg
  cases hb : bigB gs rs with
  | true =>
    rw [hb] at hbig
    refine RawC.walk (H := hint6 Try.prog) ir6 Try.func6 rfl rfl rfl ?_
    unfold ir6
    repeat' (first
      | with_reducible (first | refine Rd.p ?_ | refine zE ?_ | refine zE0 ?_)
      | with_reducible (first | refine zI fun y hy => ?_ | refine zL ?_ | refine zS ?_ | refine zA fun _ => ?_ | refine zV ?_ | refine zC ?_ | refine zG ?_ | refine zU ?_ | refine zG0 ?_ | refine zU0 ?_ | refine zF ?_)
      | ((with_reducible refine acall_id ?_); refine ACall.val hbig rfl rfl ?_)
      | ((with_reducible refine acall_id ?_); refine ACall.val awake_c rfl rfl ?_)
      | with_reducible (first | refine zX ?_ | refine zD fun _ => ?_ | refine zD0 ?_ | refine zN ?_ | refine zF0 ?_ | refine zX0 ?_ | refine z1 ?_ | refine z2 ?_ | refine z3 ?_ | refine z4 ?_ | refine z5 ?_ | refine z6 ?_ | refine z7 ?_ | refine z8 ?_ | refine y1 ?_ | refine y2 ?_ | refine y3 ?_ | refine y4 ?_ | refine y5 ?_ | refine y6 ?_ | refine y7 ?_ | refine y8 ?_ | refine Rt.p (fun _ => ?_) fun _ => ?_)
      | ((with_reducible apply w_ixM); (focus exact rfl); (focus exact rfl); case' hk => intro y hy) | ((with_reducible (first | apply w_val | apply q_ends)); (focus exact rfl)))
    rfl
  | false =>
    rw [hb] at hbig
    simp only [bigB, Bool.or_eq_false_iff, Bool.and_eq_false_iff, decide_eq_false_iff_not] at hb
    obtain ⟨hlong, h16, _⟩ := hb
    obtain ⟨hl14, hl40⟩ := longB_f hlong
    by_cases ho20 : 20 < order.length
    · refine RawC.walk (H := hint6 Try.prog) ir6 Try.func6 rfl rfl rfl ?_
      unfold ir6
      repeat' (first
        | with_reducible (first | refine Rd.p ?_ | refine zE ?_ | refine zE0 ?_)
        | with_reducible (first | refine zI fun y hy => ?_ | refine zL ?_ | refine zS ?_ | refine zA fun _ => ?_ | refine zV ?_ | refine zC ?_ | refine zG ?_ | refine zU ?_ | refine zG0 ?_ | refine zU0 ?_ | refine zF ?_)
        | ((with_reducible refine acall_id ?_); refine ACall.val hbig rfl rfl ?_)
        | ((with_reducible refine acall_id ?_); refine ACall.val awake_c rfl rfl ?_)
        | with_reducible (first | refine zX ?_ | refine zD fun _ => ?_ | refine zD0 ?_ | refine zN ?_ | refine zF0 ?_ | refine zX0 ?_ | refine z1 ?_ | refine z2 ?_ | refine z3 ?_ | refine z4 ?_ | refine z5 ?_ | refine z6 ?_ | refine z7 ?_ | refine z8 ?_ | refine y1 ?_ | refine y2 ?_ | refine y3 ?_ | refine y4 ?_ | refine y5 ?_ | refine y6 ?_ | refine y7 ?_ | refine y8 ?_ | refine Rt.p (fun _ => ?_) fun _ => ?_)
        | ((with_reducible apply w_ixM); (focus exact rfl); (focus exact rfl); case' hk => intro y hy) | ((with_reducible (first | apply w_val | apply q_ends)); (focus exact rfl)))
      rfl
    refine RawC.walk (H := hint6 Try.prog) ir6 Try.func6 rfl rfl rfl ?_
    unfold ir6
    repeat' (first
      | with_reducible (first | refine Rd.p ?_ | refine zE ?_ | refine zE0 ?_)
      | with_reducible (first | refine zI fun y hy => ?_ | refine zL ?_ | refine zS ?_ | refine zA fun _ => ?_ | refine zV ?_ | refine zC ?_ | refine zG ?_ | refine zU ?_ | refine zG0 ?_ | refine zU0 ?_ | refine zF ?_)
      | ((with_reducible refine acall_id ?_); refine ACall.val hbig rfl rfl ?_)
      | ((with_reducible refine acall_id ?_); refine ACall.liftS (boxOf_s nums hn) [] (some 6) rfl rfl rfl trivial (fun _ => rfl) ?_; rintro ⟨gb, w⟩ _ rfl)
      | ((with_reducible refine acall_id ?_); refine ACall.box (partyOf_c _ _ 7 12 (by omega) (by omega)) rfl rfl rfl ?_; rintro _ _ ⟨mg, mr, rfl, hm⟩)
      | with_reducible (first | refine zX ?_ | refine zD fun _ => ?_ | refine zD0 ?_ | refine zN ?_ | refine zF0 ?_ | refine zX0 ?_ | refine z1 ?_ | refine z2 ?_ | refine z3 ?_ | refine z4 ?_ | refine z5 ?_ | refine z6 ?_ | refine z7 ?_ | refine z8 ?_ | refine y1 ?_ | refine y2 ?_ | refine y3 ?_ | refine y4 ?_ | refine y5 ?_ | refine y6 ?_ | refine y7 ?_ | refine y8 ?_ | refine Rt.p (fun _ => ?_) fun _ => ?_)
      | ((with_reducible apply w_ixM); (focus exact rfl); (focus exact rfl); case' hk => intro y hy) | ((with_reducible (first | apply w_val | apply q_ends)); (focus exact rfl)))
    have g1 := hm.g1
    have g2 := hm.gn
    have g3 := hm.rn
    repeat' (first
      | with_reducible (first | refine Rd.p ?_ | refine zE ?_ | refine zE0 ?_)
      | with_reducible (first | refine zI fun y hy => ?_ | refine zL ?_ | refine zS ?_ | refine zA fun _ => ?_ | refine zV ?_ | refine zC ?_ | refine zG ?_ | refine zU ?_ | refine zG0 ?_ | refine zU0 ?_ | refine zF ?_)
      | ((with_reducible refine acall_id ?_); refine ACall.box (order_c _ _ mg.length (by omega)) rfl rfl rfl ?_; rintro _ _ ⟨ol, rfl, hol⟩)
      | with_reducible (first | refine zX ?_ | refine zD fun _ => ?_ | refine zD0 ?_ | refine zN ?_ | refine zF0 ?_ | refine zX0 ?_ | refine z1 ?_ | refine z2 ?_ | refine z3 ?_ | refine z4 ?_ | refine z5 ?_ | refine z6 ?_ | refine z7 ?_ | refine z8 ?_ | refine y1 ?_ | refine y2 ?_ | refine y3 ?_ | refine y4 ?_ | refine y5 ?_ | refine y6 ?_ | refine y7 ?_ | refine y8 ?_ | refine Rt.p (fun _ => ?_) fun _ => ?_)
      | ((with_reducible apply w_ixM); (focus exact rfl); (focus exact rfl); case' hk => intro y hy) | ((with_reducible (first | apply w_val | apply q_ends)); (focus exact rfl)))
    have hqs : ∀ q ∈ [((((gs, rs) : PQ), order) : CQ), ((mg, mr), ol), ((mg, mr), order)], q.1.1.length ≤ 14 ∧ (∀ g ∈ q.1.1, g.name.size ≤ 40) ∧ q.1.2.length ≤ 16 ∧ q.2.length ≤ 20 := by
      intro q hq
      simp only [List.mem_cons, List.not_mem_nil, or_false] at hq
      have hol2 := hol.len
      have hms : ∀ g ∈ mg, g.name.size ≤ 40 := fun g hg => by have := (madeG_ok hm.g).2 g hg; omega
      rcases hq with rfl | rfl | rfl
      · exact ⟨hl14, hl40, by dsimp only; omega, by dsimp only; omega⟩
      · exact ⟨by dsimp only; omega, hms, by dsimp only; omega, by dsimp only; omega⟩
      · exact ⟨by dsimp only; omega, hms, by dsimp only; omega, by dsimp only; omega⟩
    generalize hqe : [((((gs, rs) : PQ), order) : CQ), ((mg, mr), ol), ((mg, mr), order)] = qs at hqs
    have hpl : qs.length = 3 := by rw [← hqe]; rfl
    refine w_loopK [] [] (fun k : Nat => k ≤ 3) (fun k => 3 - k) (fun k => [(11, .int .i64 k), (9, .slc 2 (qs.map fun q => PQ.row q.1) .full), (10, .slc 1 (qs.map fun q => [.slc 1 (iR q.2) .non]) .full)]) (fun _ => []) 0 (by omega) ⟨rfl, by subst hqe; rfl, by subst hqe; rfl, trivial⟩ trivial ?_
    rintro k hk e σ
    by_cases hk2 : k < 3
    case neg =>
      repeat' (first
        | with_reducible (first | refine Rd.p ?_ | refine zE ?_ | refine zE0 ?_)
        | with_reducible (first | refine zI fun y hy => ?_ | refine zL ?_ | refine zS ?_ | refine zA fun _ => ?_ | refine zV ?_ | refine zC ?_ | refine zG ?_ | refine zU ?_ | refine zG0 ?_ | refine zU0 ?_ | refine zF ?_)
        | ((with_reducible refine acall_id ?_); refine ACall.val awake_c rfl rfl ?_)
        | with_reducible (first | refine zX ?_ | refine zD fun _ => ?_ | refine zD0 ?_ | refine zN ?_ | refine zF0 ?_ | refine zX0 ?_ | refine z1 ?_ | refine z2 ?_ | refine z3 ?_ | refine z4 ?_ | refine z5 ?_ | refine z6 ?_ | refine z7 ?_ | refine z8 ?_ | refine y1 ?_ | refine y2 ?_ | refine y3 ?_ | refine y4 ?_ | refine y5 ?_ | refine y6 ?_ | refine y7 ?_ | refine y8 ?_ | refine Rt.p (fun _ => ?_) fun _ => ?_)
        | ((with_reducible apply w_ixM); (focus exact rfl); (focus exact rfl); case' hk => intro y hy) | ((with_reducible (first | apply w_val | apply q_ends)); (focus exact rfl)))
      rfl
    obtain ⟨q, hq⟩ : ∃ q, qs[((k : Nat) : Int).toNat]? = some q := ⟨qs[k], by simp [hpl, hk2]⟩
    obtain ⟨q1, q2, q3, q4⟩ := hqs q (List.mem_of_getElem? hq)
    have hsz : ∀ g ∈ q.1.1, g.name.size ≤ 1000 := fun g hg => by have := q2 g hg; omega
    have hP := Price_c q.1.1 q.1.2 q.2 (by omega) (by omega) hsz (by omega)
    have hP2 := rPrice_c q.1.1 q.1.2 q.2 (by omega) (by omega) hsz (by omega)
    have hC := Check_c q.1.1 q.1.2 (by omega) (by omega) hsz
    have hC2 := rCheck_c q.1.1 q.1.2 (by omega) (by omega) hsz
    have hOw := ownParty_c q.1.1 q.1.2 (by omega) (by omega)
    have hIn := ints_c q.2 (by omega)
    have hEP := eqParties_c q.1.1 q.1.2 q.1.1 q.1.2 (by omega) (by omega)
    rw [decide_eq_true ⟨rfl, rfl⟩] at hEP
    have hEq := eq_c q.2 q.2 (by omega)
    rw [decide_eq_true rfl] at hEq
    have hpl2 := priceP_len q.1.1 q.1.2 q.2
    generalize pErr q.1.1 q.1.2 = pe at hC hC2
    generalize priceP q.1.1 q.1.2 q.2 = pp at hP hP2 hpl2
    obtain ⟨o, pc, pe2⟩ := pp
    have hpl3 : (o.getD []).length < 2 ^ 62 := by dsimp only at hpl2; omega
    cases o
    all_goals
      dsimp only [optV] at hP hP2
      repeat' (first
        | with_reducible (first | refine Rd.p ?_ | refine zE ?_ | refine zE0 ?_)
        | (with_reducible refine zK hq ?_)
        | with_reducible (first | refine zI fun y hy => ?_ | refine zL ?_ | refine zS ?_ | refine zA fun _ => ?_ | refine zV ?_ | refine zC ?_ | refine zG ?_ | refine zU ?_ | refine zG0 ?_ | refine zU0 ?_ | refine zF ?_)
        | ((with_reducible refine acall_id ?_); refine ACall.val hOw rfl rfl ?_)
        | ((with_reducible refine acall_id ?_); refine ACall.val hIn rfl rfl ?_)
        | ((with_reducible refine acall_id ?_); refine ACall.val hP rfl rfl ?_)
        | ((with_reducible refine acall_id ?_); refine ACall.val hP2 rfl rfl ?_)
        | ((with_reducible refine acall_id ?_); refine ACall.val hC rfl rfl ?_)
        | ((with_reducible refine acall_id ?_); refine ACall.val hC2 rfl rfl ?_)
        | ((with_reducible refine acall_id ?_); refine ACall.val hEP rfl rfl ?_)
        | ((with_reducible refine acall_id ?_); refine ACall.val hEq rfl rfl ?_)
        | ((with_reducible refine acall_id ?_); (first | refine ACall.eqO (a := none) (b := none) hpl3 ?_ | refine ACall.eqO (a := some _) (b := some _) hpl3 ?_))
        | with_reducible (first | refine zX ?_ | refine zD fun _ => ?_ | refine zD0 ?_ | refine zN ?_ | refine zF0 ?_ | refine zX0 ?_ | refine z1 ?_ | refine z2 ?_ | refine z3 ?_ | refine z4 ?_ | refine z5 ?_ | refine z6 ?_ | refine z7 ?_ | refine z8 ?_ | refine y1 ?_ | refine y2 ?_ | refine y3 ?_ | refine y4 ?_ | refine y5 ?_ | refine y6 ?_ | refine y7 ?_ | refine y8 ?_ | refine Rt.p (fun _ => ?_) fun _ => ?_)
        | ((with_reducible apply w_ixM); (focus exact rfl); (focus exact rfl); case' hk => intro y hy) | ((with_reducible (first | apply w_val | apply q_ends)); (focus exact rfl)))
      refine zQ (k + 1) ?_ ?_
      · omega
      · omega
end Go.Abs
