/- A part of the proofs of the laws of this seat: contracts of the functions that they reach, each proved of the program's form in Lean. No condition beyond those that each contract names. -/
import Derived.Test.YtcgcciegekaliaaB0
import Derived.Test.YtcgcciegekaliaaB1
import Derived.Test.YtcgcciegekaliaaB2
import Derived.Test.YtcgcciegekaliaaB4
import Derived.Test.YtcgcciegekaliaaB5
import Derived.Test.YtcgcciegekaliaaB7
import Derived.Test.YtcgcciegekaliaaB8
import Derived.Test.YtcgcciegekaliaaB13a
import Derived.Test.YtcgcciegekaliaaB14a
import Derived.Test.YtcgcciegekaliaaB15a
import Derived.Test.YtcgcciegekaliaaB17
import Derived.Test.YtcgcciegekaliaaB18
import Derived.Test.YtcgcciegekaliaaB24
import Derived.Test.YtcgcciegekaliaaB41
import Derived.Test.YtcgcciegekaliaaB41a
import Derived.Test.YtcgcciegekaliaaB48
import Derived.Test.YtcgcciegekaliaaB49
import Derived.Test.YtcgcciegekaliaaB50
import Derived.Test.YtcgcciegekaliaaB51
set_option linter.unusedVariables false
set_option linter.unusedSimpArgs false
set_option maxRecDepth 20000
set_option maxHeartbeats 4000000
/-! ### SeatConflicts -/
namespace Go.Abs
open Go.Proofs
/-- aloeswood/aloeswoodlaw08.SeatConflicts -/
def ir10 : IFn :=
  ⟨63, [(4, none)], (.seq (.ops [⟨(some 2), none, (.box 2 (.t 0))⟩,
    ⟨(some 4), none, (.mov (.k (.bool false)))⟩])
  (.seq (.seq (.ops [⟨(some 12), none, (.ld 2 true (.t 2))⟩,
    ⟨(some 13), none, (.callF 34 [(.t 12)])⟩])
  (.cnd (.t 13)
    (.seq (.ops [⟨(some 14), none, (.callF 16 [])⟩,
      ⟨(some 4), none, (.mov (.t 14))⟩])
    .ret)
    .skip))
  (.seq (.ops [⟨(some 15), none, (.ld 2 true (.t 2))⟩,
    ⟨(some 16), none, (.mov (.t 1))⟩,
    ⟨(some 17), none, (.callF 17 [(.t 16)])⟩,
    ⟨none, none, (.chk 2 true (.t 2) 15)⟩,
    ⟨(some 18), none, (.callF 52 [(.t 17)])⟩,
    ⟨none, none, (.chk 2 true (.t 2) 15)⟩,
    ⟨(some 19), none, (.bsl 2 [[.nsl, .nsl], [.nsl, .nsl]] [(0, (.t 15)), (1, (.t 18))])⟩,
    ⟨(some 5), none, (.mov (.t 19))⟩])
  (.seq (.seq (.ops [⟨(some 6), none, (.mov (.k (.int .i64 0)))⟩])
  (.blk 0 (.loop (.seq (.seq (.ops [⟨(some 20), none, (.mov (.t 6))⟩,
        ⟨(some 21), none, (.mov (.t 5))⟩,
        ⟨(some 22), none, (.len false (.t 21))⟩,
        ⟨(some 23), none, (.bin .lss (.t 20) (.t 22))⟩])
      (.cnd (.t 23)
        .skip
        (.exit 0)))
      (.seq (.blk 1 (.seq (.ops [⟨(some 26), none, (.mov (.t 5))⟩,
          ⟨(some 27), none, (.mov (.t 6))⟩,
          ⟨(some 28), none, (.ixA 2 (.t 26) (.t 27))⟩,
          ⟨(some 29), none, (.ld 2 true (.t 28))⟩,
          ⟨(some 30), none, (.callF 30 [(.t 29)])⟩,
          ⟨(some 7), none, (.new [.nsl, .nsl])⟩,
          ⟨none, none, (.st 2 (.t 7) (.t 30))⟩])
        (.seq (.ops [⟨(some 32), none, (.ld 2 true (.t 7))⟩,
          ⟨(some 33), none, (.callF 53 [(.t 32)])⟩,
          ⟨(some 31), none, (.mov (.t 33))⟩,
          ⟨(some 34), none, (.ext 0 (.t 31))⟩,
          ⟨(some 35), none, (.ext 1 (.t 31))⟩,
          ⟨(some 8), none, (.mov (.t 34))⟩,
          ⟨(some 9), none, (.mov (.t 35))⟩])
        (.seq (.ops [⟨(some 37), none, (.mov (.t 5))⟩,
          ⟨(some 38), none, (.mov (.t 6))⟩,
          ⟨(some 39), none, (.ixA 2 (.t 37) (.t 38))⟩,
          ⟨(some 40), none, (.ld 2 true (.t 39))⟩,
          ⟨(some 41), none, (.callF 54 [(.t 40)])⟩,
          ⟨(some 36), none, (.mov (.t 41))⟩,
          ⟨(some 42), none, (.ext 0 (.t 36))⟩,
          ⟨(some 43), none, (.ext 1 (.t 36))⟩,
          ⟨(some 10), none, (.mov (.t 42))⟩,
          ⟨(some 11), none, (.mov (.t 43))⟩])
        (.seq (.ops [⟨(some 44), none, (.mov (.t 9))⟩,
          ⟨(some 45), none, (.mov (.t 11))⟩,
          ⟨(some 46), none, (.bin .neq (.t 44) (.t 45))⟩,
          ⟨(some 47), none, (.mov (.t 46))⟩,
          ⟨(some 48), (some (47, false)), (.mov (.t 8))⟩,
          ⟨(some 49), (some (47, false)), (.mov (.t 10))⟩,
          ⟨(some 50), (some (47, false)), (.callF 24 [(.t 48), (.t 49)])⟩,
          ⟨(some 51), (some (47, false)), (.not (.t 50))⟩,
          ⟨(some 52), none, (.pick (.t 47) (.k (.bool true)) (.t 51))⟩,
          ⟨(some 53), none, (.mov (.t 52))⟩,
          ⟨(some 54), (some (53, false)), (.ld 2 true (.t 7))⟩,
          ⟨(some 55), (some (53, false)), (.mov (.t 5))⟩,
          ⟨(some 56), (some (53, false)), (.mov (.t 6))⟩,
          ⟨(some 57), (some (53, false)), (.ixA 2 (.t 55) (.t 56))⟩,
          ⟨(some 58), (some (53, false)), (.ld 2 true (.t 57))⟩,
          ⟨(some 59), (some (53, false)), (.callF 41 [(.t 54), (.t 58)])⟩,
          ⟨(some 60), (some (53, false)), (.not (.t 59))⟩,
          ⟨(some 61), none, (.pick (.t 53) (.k (.bool true)) (.t 60))⟩])
        (.cnd (.t 61)
          (.seq (.ops [⟨(some 4), none, (.mov (.k (.bool false)))⟩])
          .ret)
          .skip))))))
      (.ops [⟨(some 24), none, (.mov (.t 6))⟩,
        ⟨(some 25), none, (.bin .add (.t 24) (.k (.int .i64 1)))⟩,
        ⟨(some 6), none, (.mov (.t 25))⟩]))))))
  (.seq (.ops [⟨(some 62), none, (.callF 16 [])⟩,
    ⟨(some 4), none, (.mov (.t 62))⟩])
  .ret)))))⟩
def hint10 (P : Program) : Hint := {}

theorem cfP_len (gs : List Guest) (rs : List Rule) : (cfP gs rs).1.length < 1000 := by
  unfold cfP
  split
  · rename_i h
    have h12 := (pOK_of h).r12
    split
    · cases hf : (chs (mustL rs) (mustL rs).length).find? (hitB gs rs) with
      | none => simp
      | some y =>
        have := (chs_mem.1 (List.mem_of_find?_eq_some hf)).2.1
        have : (mustL rs).length ≤ rs.length := plcF_len (fun r => decide (r.weight = 0)) rs
        simp only [Option.getD_some]; omega
    · simp
  · simp
abbrev PR := List Guest × List Rule
abbrev PR.row (p : PR) : List AV := [.slc 5 (gR p.1) .non, .slc 4 (rR p.2) .non]
theorem seatConflicts_c (gs : List Guest) (rs : List Rule) (nums : List Int) (hg : gs.length < 2 ^ 63) (hn : nums.length < 2 ^ 62) :
    Fn0 Try.prog 10 [pA gs rs, .slc 1 (iR nums) .non] (fun v => v = .bool true) := by
  have hbig := big_c gs rs hg
  cases hb : bigB gs rs with
  | true =>
    rw [hb] at hbig
    refine RawC.walk (H := hint10 Try.prog) ir10 Try.func10 rfl rfl rfl ?_
    unfold ir10
    repeat' (first
      | with_reducible (first | refine Rd.p ?_ | refine zE ?_ | refine zE0 ?_)
      | with_reducible (first | refine zI fun y hy => ?_ | refine zL ?_ | refine zS ?_ | refine zA fun _ => ?_ | refine zV ?_ | refine zC ?_ | refine zG ?_ | refine zU ?_ | refine zG0 ?_ | refine zU0 ?_ | refine zF ?_)
      | ((with_reducible refine acall_id ?_); refine ACall.val hbig rfl rfl ?_)
      | ((with_reducible refine acall_id ?_); refine ACall.val awake_c rfl rfl ?_)
      | with_reducible (first | refine zX ?_ | refine zD fun _ => ?_ | refine zD0 ?_ | refine zN ?_ | refine zF0 ?_ | refine zX0 ?_ | refine z1 ?_ | refine z2 ?_ | refine z3 ?_ | refine z4 ?_ | refine z5 ?_ | refine z6 ?_ | refine z7 ?_ | refine z8 ?_ | refine y1 ?_ | refine y2 ?_ | refine y3 ?_ | refine y4 ?_ | refine y5 ?_ | refine y6 ?_ | refine y7 ?_ | refine y8 ?_ | refine Rt.p (fun _ => ?_) fun _ => ?_)
      | ((with_reducible apply w_ixM); (focus exact rfl); (focus exact rfl); case' hk => intro y hy) | ((with_reducible (first | apply w_val | apply q_ends)); (focus exact rfl)))
    rfl
  | false =>
    rw [hb] at hbig
    simp only [bigB, Bool.or_eq_false_iff, Bool.and_eq_false_iff, decide_eq_false_iff_not] at hb
    obtain ⟨hlong, h16, _⟩ := hb
    obtain ⟨hl14, hl40⟩ := longB_f hlong
    refine RawC.walk (H := hint10 Try.prog) ir10 Try.func10 rfl rfl rfl ?_
    unfold ir10
    repeat' (first
      | with_reducible (first | refine Rd.p ?_ | refine zE ?_ | refine zE0 ?_)
      | with_reducible (first | refine zI fun y hy => ?_ | refine zL ?_ | refine zS ?_ | refine zA fun _ => ?_ | refine zV ?_ | refine zC ?_ | refine zG ?_ | refine zU ?_ | refine zG0 ?_ | refine zU0 ?_ | refine zF ?_)
      | ((with_reducible refine acall_id ?_); refine ACall.val hbig rfl rfl ?_)
      | ((with_reducible refine acall_id ?_); refine ACall.liftS (boxOf_s nums hn) [] (some 6) rfl rfl rfl trivial (fun _ => rfl) ?_; rintro ⟨gb, w⟩ _ rfl)
      | ((with_reducible refine acall_id ?_); refine ACall.box (strict_p _ _) rfl rfl rfl ?_; rintro _ _ ⟨mg, mr, rfl, hm⟩)
      | with_reducible (first | refine zX ?_ | refine zD fun _ => ?_ | refine zD0 ?_ | refine zN ?_ | refine zF0 ?_ | refine zX0 ?_ | refine z1 ?_ | refine z2 ?_ | refine z3 ?_ | refine z4 ?_ | refine z5 ?_ | refine z6 ?_ | refine z7 ?_ | refine z8 ?_ | refine y1 ?_ | refine y2 ?_ | refine y3 ?_ | refine y4 ?_ | refine y5 ?_ | refine y6 ?_ | refine y7 ?_ | refine y8 ?_ | refine Rt.p (fun _ => ?_) fun _ => ?_)
      | ((with_reducible apply w_ixM); (focus exact rfl); (focus exact rfl); case' hk => intro y hy) | ((with_reducible (first | apply w_val | apply q_ends)); (focus exact rfl)))
    have hps : ∀ p ∈ [((gs, rs) : PR), (mg, mr)], p.1.length ≤ 14 ∧ (∀ g ∈ p.1, g.name.size ≤ 40) ∧ p.2.length ≤ 16 := by
      intro p hp
      simp only [List.mem_cons, List.not_mem_nil, or_false] at hp
      rcases hp with rfl | rfl
      · exact ⟨hl14, hl40, by dsimp only; omega⟩
      · have g1 := hm.gn
        have g2 := hm.rn
        exact ⟨by dsimp only; omega, fun g hg => by have := (madeG_ok hm.g).2 g hg; omega, by dsimp only; omega⟩
    generalize hqe : [((gs, rs) : PR), (mg, mr)] = ps at hps
    have hpl : ps.length = 2 := by rw [← hqe]; rfl
    refine w_loopK [] [] (fun k : Nat => k ≤ 2) (fun k => 2 - k) (fun k => [(6, .int .i64 k), (5, .slc 2 (ps.map PR.row) .full)]) (fun _ => []) 0 (by omega) ⟨rfl, by subst hqe; rfl, trivial⟩ trivial ?_
    rintro k hk e σ
    by_cases hk2 : k < 2
    case neg =>
      repeat' (first
        | with_reducible (first | refine Rd.p ?_ | refine zE ?_ | refine zE0 ?_)
        | with_reducible (first | refine zI fun y hy => ?_ | refine zL ?_ | refine zS ?_ | refine zA fun _ => ?_ | refine zV ?_ | refine zC ?_ | refine zG ?_ | refine zU ?_ | refine zG0 ?_ | refine zU0 ?_ | refine zF ?_)
        | ((with_reducible refine acall_id ?_); refine ACall.val awake_c rfl rfl ?_)
        | with_reducible (first | refine zX ?_ | refine zD fun _ => ?_ | refine zD0 ?_ | refine zN ?_ | refine zF0 ?_ | refine zX0 ?_ | refine z1 ?_ | refine z2 ?_ | refine z3 ?_ | refine z4 ?_ | refine z5 ?_ | refine z6 ?_ | refine z7 ?_ | refine z8 ?_ | refine y1 ?_ | refine y2 ?_ | refine y3 ?_ | refine y4 ?_ | refine y5 ?_ | refine y6 ?_ | refine y7 ?_ | refine y8 ?_ | refine Rt.p (fun _ => ?_) fun _ => ?_)
        | ((with_reducible apply w_ixM); (focus exact rfl); (focus exact rfl); case' hk => intro y hy) | ((with_reducible (first | apply w_val | apply q_ends)); (focus exact rfl)))
      rfl
    obtain ⟨p, hp⟩ : ∃ p, ps[((k : Nat) : Int).toNat]? = some p := ⟨ps[k], by simp [hpl, hk2]⟩
    obtain ⟨q1, q2, q3⟩ := hps p (List.mem_of_getElem? hp)
    have hsz : ∀ g ∈ p.1, g.name.size ≤ 1000 := fun g hg => by have := q2 g hg; omega
    have hC := Conflict_c p.1 p.2 (by omega) (by omega) hsz
    have hC2 := rConflict_c p.1 p.2 (by omega) (by omega) hsz
    have hOw := ownParty_c p.1 p.2 (by omega) (by omega)
    have hEP := eqParties_c p.1 p.2 p.1 p.2 (by omega) (by omega)
    rw [decide_eq_true ⟨rfl, rfl⟩] at hEP
    have hcl := cfP_len p.1 p.2
    generalize cfP p.1 p.2 = cf at hC hC2 hcl
    obtain ⟨l, ce⟩ := cf
    dsimp only at hC hC2 hcl
    have hE := eq_c l l (by omega)
    rw [decide_eq_true rfl] at hE
    repeat' (first
      | with_reducible (first | refine Rd.p ?_ | refine zE ?_ | refine zE0 ?_)
      | (with_reducible refine zK hp ?_)
      | with_reducible (first | refine zI fun y hy => ?_ | refine zL ?_ | refine zS ?_ | refine zA fun _ => ?_ | refine zV ?_ | refine zC ?_ | refine zG ?_ | refine zU ?_ | refine zG0 ?_ | refine zU0 ?_ | refine zF ?_)
      | ((with_reducible refine acall_id ?_); refine ACall.val hOw rfl rfl ?_)
      | ((with_reducible refine acall_id ?_); refine ACall.val hC rfl rfl ?_)
      | ((with_reducible refine acall_id ?_); refine ACall.val hC2 rfl rfl ?_)
      | ((with_reducible refine acall_id ?_); refine ACall.val hEP rfl rfl ?_)
      | ((with_reducible refine acall_id ?_); refine ACall.val hE rfl rfl ?_)
      | with_reducible (first | refine zX ?_ | refine zD fun _ => ?_ | refine zD0 ?_ | refine zN ?_ | refine zF0 ?_ | refine zX0 ?_ | refine z1 ?_ | refine z2 ?_ | refine z3 ?_ | refine z4 ?_ | refine z5 ?_ | refine z6 ?_ | refine z7 ?_ | refine z8 ?_ | refine y1 ?_ | refine y2 ?_ | refine y3 ?_ | refine y4 ?_ | refine y5 ?_ | refine y6 ?_ | refine y7 ?_ | refine y8 ?_ | refine Rt.p (fun _ => ?_) fun _ => ?_)
      | ((with_reducible apply w_ixM); (focus exact rfl); (focus exact rfl); case' hk => intro y hy) | ((with_reducible (first | apply w_val | apply q_ends)); (focus exact rfl)))
    refine zQ (k + 1) ?_ ?_
    · omega
    · omega
end Go.Abs
