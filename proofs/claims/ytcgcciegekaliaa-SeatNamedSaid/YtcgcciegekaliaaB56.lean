/- A part of the proofs of the laws of this seat: contracts of the functions that they reach, each proved of the program's form in Lean. No condition beyond those that each contract names. -/
import Derived.Test.YtcgcciegekaliaaB0
import Derived.Test.YtcgcciegekaliaaB1
import Derived.Test.YtcgcciegekaliaaB2
import Derived.Test.YtcgcciegekaliaaB4
import Derived.Test.YtcgcciegekaliaaB5
import Derived.Test.YtcgcciegekaliaaB7
import Derived.Test.YtcgcciegekaliaaB8
import Derived.Test.YtcgcciegekaliaaB9
import Derived.Test.YtcgcciegekaliaaB10
import Derived.Test.YtcgcciegekaliaaB11
import Derived.Test.YtcgcciegekaliaaB12
import Derived.Test.YtcgcciegekaliaaB13a
import Derived.Test.YtcgcciegekaliaaB14a
import Derived.Test.YtcgcciegekaliaaB15a
import Derived.Test.YtcgcciegekaliaaB16
import Derived.Test.YtcgcciegekaliaaB17
import Derived.Test.YtcgcciegekaliaaB18
import Derived.Test.YtcgcciegekaliaaB19a
import Derived.Test.YtcgcciegekaliaaB20
import Derived.Test.YtcgcciegekaliaaB29
import Derived.Test.YtcgcciegekaliaaB34a
import Derived.Test.YtcgcciegekaliaaB35a
import Derived.Test.YtcgcciegekaliaaB41
import Derived.Test.YtcgcciegekaliaaB41a
import Derived.Test.YtcgcciegekaliaaB48
import Derived.Test.YtcgcciegekaliaaB49
import Derived.Test.YtcgcciegekaliaaB51
import Derived.Test.YtcgcciegekaliaaB54
import Derived.Test.YtcgcciegekaliaaB55
set_option linter.unusedVariables false
set_option linter.unusedSimpArgs false
set_option maxRecDepth 20000
set_option maxHeartbeats 1600000
/-! ### SeatNamed -/
namespace Go.Abs
open Go.Proofs
/-- aloeswood/aloeswoodlaw08.SeatNamed -/
def ir12 : IFn :=
  ⟨99, [(2, none)], (.seq (.ops [⟨(some 2), none, (.mov (.k (.bool false)))⟩])
  (.seq (.ops [⟨(some 20), none, (.mov (.t 0))⟩,
    ⟨(some 21), none, (.callF 17 [(.t 20)])⟩,
    ⟨(some 3), none, (.mov (.t 21))⟩])
  (.seq (.ops [⟨(some 22), none, (.mov (.t 3))⟩,
    ⟨(some 23), none, (.callF 52 [(.t 22)])⟩,
    ⟨(some 4), none, (.new [.nsl, .nsl])⟩,
    ⟨none, none, (.st 2 (.t 4) (.t 23))⟩])
  (.seq (.ops [⟨none, none, (.kil 5)⟩,
    ⟨(some 24), none, (.ld 2 true (.t 4))⟩,
    ⟨(some 25), none, (.mov (.t 3))⟩,
    ⟨(some 26), none, (.flA 0 (.t 4))⟩,
    ⟨(some 27), none, (.ld 1 false (.t 26))⟩,
    ⟨(some 28), none, (.len false (.t 27))⟩,
    ⟨(some 29), none, (.callF 35 [(.t 25), (.t 28)])⟩,
    ⟨none, none, (.chk 2 true (.t 4) 24)⟩,
    ⟨(some 30), none, (.callF 56 [(.t 24), (.t 29)])⟩,
    ⟨(some 5), none, (.new [.nsl, .nsl])⟩,
    ⟨none, none, (.st 2 (.t 5) (.t 30))⟩])
  (.seq (.ops [⟨(some 32), none, (.ld 2 true (.t 4))⟩,
    ⟨(some 33), none, (.callF 32 [(.t 32)])⟩,
    ⟨(some 31), none, (.mov (.t 33))⟩,
    ⟨(some 34), none, (.ext 0 (.t 31))⟩,
    ⟨(some 35), none, (.ext 1 (.t 31))⟩,
    ⟨(some 6), none, (.mov (.t 34))⟩,
    ⟨(some 7), none, (.mov (.t 35))⟩])
  (.seq (.ops [⟨(some 37), none, (.ld 2 true (.t 5))⟩,
    ⟨(some 38), none, (.callF 32 [(.t 37)])⟩,
    ⟨(some 36), none, (.mov (.t 38))⟩,
    ⟨(some 39), none, (.ext 0 (.t 36))⟩,
    ⟨(some 40), none, (.ext 1 (.t 36))⟩,
    ⟨(some 8), none, (.mov (.t 39))⟩,
    ⟨(some 9), none, (.mov (.t 40))⟩])
  (.seq (.ops [⟨(some 42), none, (.ld 2 true (.t 4))⟩,
    ⟨(some 43), none, (.callF 33 [(.t 42)])⟩,
    ⟨(some 41), none, (.mov (.t 43))⟩,
    ⟨(some 44), none, (.ext 0 (.t 41))⟩,
    ⟨(some 45), none, (.ext 1 (.t 41))⟩,
    ⟨(some 46), none, (.ext 2 (.t 41))⟩,
    ⟨(some 10), none, (.mov (.t 44))⟩,
    ⟨(some 11), none, (.mov (.t 45))⟩,
    ⟨(some 12), none, (.mov (.t 46))⟩])
  (.seq (.ops [⟨(some 48), none, (.ld 2 true (.t 5))⟩,
    ⟨(some 49), none, (.callF 33 [(.t 48)])⟩,
    ⟨(some 47), none, (.mov (.t 49))⟩,
    ⟨(some 50), none, (.ext 0 (.t 47))⟩,
    ⟨(some 51), none, (.ext 1 (.t 47))⟩,
    ⟨(some 52), none, (.ext 2 (.t 47))⟩,
    ⟨(some 13), none, (.mov (.t 50))⟩,
    ⟨(some 14), none, (.mov (.t 51))⟩,
    ⟨(some 15), none, (.mov (.t 52))⟩])
  (.seq (.ops [⟨(some 54), none, (.ld 2 true (.t 4))⟩,
    ⟨(some 55), none, (.callF 53 [(.t 54)])⟩,
    ⟨(some 53), none, (.mov (.t 55))⟩,
    ⟨(some 56), none, (.ext 0 (.t 53))⟩,
    ⟨(some 57), none, (.ext 1 (.t 53))⟩,
    ⟨(some 16), none, (.mov (.t 56))⟩,
    ⟨(some 17), none, (.mov (.t 57))⟩])
  (.seq (.ops [⟨(some 59), none, (.ld 2 true (.t 5))⟩,
    ⟨(some 60), none, (.callF 53 [(.t 59)])⟩,
    ⟨(some 58), none, (.mov (.t 60))⟩,
    ⟨(some 61), none, (.ext 0 (.t 58))⟩,
    ⟨(some 62), none, (.ext 1 (.t 58))⟩,
    ⟨(some 18), none, (.mov (.t 61))⟩,
    ⟨(some 19), none, (.mov (.t 62))⟩])
  (.seq (.ops [⟨(some 63), none, (.mov (.t 7))⟩,
    ⟨(some 64), none, (.bin .eql (.t 63) (.k (.int .i64 0)))⟩,
    ⟨(some 65), none, (.mov (.t 64))⟩,
    ⟨(some 66), (some (65, true)), (.mov (.t 9))⟩,
    ⟨(some 67), (some (65, true)), (.bin .eql (.t 66) (.k (.int .i64 0)))⟩,
    ⟨(some 68), none, (.pick (.t 65) (.t 67) (.k (.bool false)))⟩,
    ⟨(some 69), none, (.mov (.t 68))⟩,
    ⟨(some 70), (some (69, true)), (.mov (.t 6))⟩,
    ⟨(some 71), (some (69, true)), (.mov (.t 8))⟩,
    ⟨(some 72), (some (69, true)), (.bin .eql (.t 70) (.t 71))⟩,
    ⟨(some 73), none, (.pick (.t 69) (.t 72) (.k (.bool false)))⟩,
    ⟨(some 74), none, (.mov (.t 73))⟩,
    ⟨(some 75), (some (74, true)), (.mov (.t 12))⟩,
    ⟨(some 76), (some (74, true)), (.mov (.t 15))⟩,
    ⟨(some 77), (some (74, true)), (.bin .eql (.t 75) (.t 76))⟩,
    ⟨(some 78), none, (.pick (.t 74) (.t 77) (.k (.bool false)))⟩,
    ⟨(some 79), none, (.mov (.t 78))⟩,
    ⟨(some 80), (some (79, true)), (.mov (.t 11))⟩,
    ⟨(some 81), (some (79, true)), (.mov (.t 14))⟩,
    ⟨(some 82), (some (79, true)), (.bin .eql (.t 80) (.t 81))⟩,
    ⟨(some 83), none, (.pick (.t 79) (.t 82) (.k (.bool false)))⟩,
    ⟨(some 84), none, (.mov (.t 83))⟩,
    ⟨(some 85), (some (84, true)), (.mov (.t 17))⟩,
    ⟨(some 86), (some (84, true)), (.mov (.t 19))⟩,
    ⟨(some 87), (some (84, true)), (.bin .eql (.t 85) (.t 86))⟩,
    ⟨(some 88), none, (.pick (.t 84) (.t 87) (.k (.bool false)))⟩,
    ⟨(some 89), none, (.mov (.t 88))⟩,
    ⟨(some 90), (some (89, true)), (.mov (.t 16))⟩,
    ⟨(some 91), (some (89, true)), (.len false (.t 90))⟩,
    ⟨(some 92), (some (89, true)), (.mov (.t 18))⟩,
    ⟨(some 93), (some (89, true)), (.len false (.t 92))⟩,
    ⟨(some 94), (some (89, true)), (.bin .eql (.t 91) (.t 93))⟩,
    ⟨(some 95), none, (.pick (.t 89) (.t 94) (.k (.bool false)))⟩,
    ⟨(some 96), none, (.mov (.t 95))⟩,
    ⟨(some 97), (some (96, true)), (.callF 16 [])⟩,
    ⟨(some 98), none, (.pick (.t 96) (.t 97) (.k (.bool false)))⟩,
    ⟨(some 2), none, (.mov (.t 98))⟩])
  .ret)))))))))))⟩
def hint12 (P : Program) : Hint := {}

theorem best_nm {gs gs' : List Guest} {o : List Int} (ho : isPerm gs.length o) (hg : nmG o gs gs') {rs : List Rule} (hr : ∀ r ∈ rs, rOK r gs.length) (h1 : pErr gs rs = 0) (h2 : pErr gs' (rs.map (nmR o)) = 0) : (bestP gs' (rs.map (nmR o))).2 = (bestP gs rs).2 := by
  have hl := okL_nm ho hg hr
  rcases bestP_cases h1 with ⟨e1, b1⟩ | ⟨l, m1, b1, c1⟩
  · rcases bestP_cases h2 with ⟨e2, b2⟩ | ⟨l2, m2, b2, c2⟩
    · rw [b1, b2]
    · rw [e1] at hl
      rw [List.length_eq_zero_iff.1 hl] at m2; cases m2
  · rcases bestP_cases h2 with ⟨e2, b2⟩ | ⟨l2, m2, b2, c2⟩
    · rw [e2] at hl
      rw [List.length_eq_zero_iff.1 hl.symm] at m1; cases m1
    · rw [b1, b2]
      have hp1 := mem_okN.1 m1
      have hp2 := mem_okN.1 m2
      rw [hg.len] at hp2
      obtain ⟨k, hk, rfl⟩ := reP_onto ho hp2.1
      have hk2 : k ∈ okL gs rs := mem_okN.2 ⟨hk, by rw [← alw_nm ho hg hr hk]; exact hp2.2⟩
      have hl2 : l.map (getI o) ∈ okL gs' (rs.map (nmR o)) := mem_okN.2 ⟨by rw [hg.len]; exact reP_perm ho hp1.1, by rw [alw_nm ho hg hr hp1.1]; exact hp1.2⟩
      have x1 := c1 _ hk2
      have x2 := c2 _ hl2
      rw [pr_nm ho hg hr hk, pr_nm ho hg hr hp1.1] at x2
      rw [pr_nm ho hg hr hk]
      rw [show prS gs rs k = prS gs rs l by omega]
theorem seatNamed_c (nums : List Int) (hn : nums.length < 2 ^ 62) : Fn0 Try.prog 12 [.slc 1 (iR nums) .non] (fun v => v = .bool true) := by
  refine RawC.walk (H := hint12 Try.prog) ir12 Try.func12 rfl rfl rfl ?_
  unfold ir12
  repeat' (first
    | with_reducible (first | refine Rd.p ?_ | refine zE ?_ | refine zE0 ?_)
    | with_reducible (first | refine zI fun y hy => ?_ | refine zL ?_ | refine zS ?_ | refine zA fun _ => ?_ | refine zV ?_ | refine zC ?_ | refine zG ?_ | refine zU ?_ | refine zG0 ?_ | refine zU0 ?_ | refine zF ?_)
    | ((with_reducible refine acall_id ?_); refine ACall.liftS (boxOf_s nums hn) [] (some 6) rfl rfl rfl trivial (fun _ => rfl) ?_; rintro ⟨gb, w⟩ _ rfl)
    | ((with_reducible refine acall_id ?_); refine ACall.box (strict_p _ _) rfl rfl rfl ?_; rintro _ _ ⟨gs, rs, rfl, hm⟩)
    | with_reducible (first | refine zX ?_ | refine zD fun _ => ?_ | refine zD0 ?_ | refine zN ?_ | refine zF0 ?_ | refine zX0 ?_ | refine z1 ?_ | refine z2 ?_ | refine z3 ?_ | refine z4 ?_ | refine z5 ?_ | refine z6 ?_ | refine z7 ?_ | refine z8 ?_ | refine y1 ?_ | refine y2 ?_ | refine y3 ?_ | refine y4 ?_ | refine y5 ?_ | refine y6 ?_ | refine y7 ?_ | refine y8 ?_ | refine Rt.p (fun _ => ?_) fun _ => ?_)
    | ((with_reducible apply w_ixM); (focus exact rfl); (focus exact rfl); case' hk => intro y hy) | ((with_reducible (first | apply w_val | apply q_ends)); (focus exact rfl)))
  have g1 := hm.g1
  have gn := hm.gn
  have rn := hm.rn
  repeat' (first
    | with_reducible (first | refine Rd.p ?_ | refine zE ?_ | refine zE0 ?_)
    | with_reducible (first | refine zI fun y hy => ?_ | refine zL ?_ | refine zS ?_ | refine zA fun _ => ?_ | refine zV ?_ | refine zC ?_ | refine zG ?_ | refine zU ?_ | refine zG0 ?_ | refine zU0 ?_ | refine zF ?_)
    | ((with_reducible refine acall_id ?_); refine ACall.box (order_c _ _ _ (by omega)) rfl rfl rfl ?_; rintro _ _ ⟨o, rfl, ho⟩)
    | with_reducible (first | refine zX ?_ | refine zD fun _ => ?_ | refine zD0 ?_ | refine zN ?_ | refine zF0 ?_ | refine zX0 ?_ | refine z1 ?_ | refine z2 ?_ | refine z3 ?_ | refine z4 ?_ | refine z5 ?_ | refine z6 ?_ | refine z7 ?_ | refine z8 ?_ | refine y1 ?_ | refine y2 ?_ | refine y3 ?_ | refine y4 ?_ | refine y5 ?_ | refine y6 ?_ | refine y7 ?_ | refine y8 ?_ | refine Rt.p (fun _ => ?_) fun _ => ?_)
    | ((with_reducible apply w_ixM); (focus exact rfl); (focus exact rfl); case' hk => intro y hy) | ((with_reducible (first | apply w_val | apply q_ends)); (focus exact rfl)))
  have hrk : ∀ r ∈ rs, rInv r gs.length := fun r hr => rErr_inv (hm.r r hr)
  have hT : Fn0 Try.prog 56 [pA gs rs, .slc 1 (iR o) .non] (fun v => ∃ gs', v = pA gs' (rs.map (nmR o)) ∧ nmG o gs gs') := by
    cases gs with
    | nil => simp at g1
    | cons g0 gs =>
      simp only [List.length_cons] at g1 gn
      cases rs with
      | nil => exact namedR0_c g0 gs o (by omega) ho
      | cons r0 rs => 
        simp only [List.length_cons] at rn
        exact namedR_c g0 gs r0 rs o (by omega) (by omega) ho hrk
  repeat' (first
    | with_reducible (first | refine Rd.p ?_ | refine zE ?_ | refine zE0 ?_)
    | with_reducible (first | refine zI fun y hy => ?_ | refine zL ?_ | refine zS ?_ | refine zA fun _ => ?_ | refine zV ?_ | refine zC ?_ | refine zG ?_ | refine zU ?_ | refine zG0 ?_ | refine zU0 ?_ | refine zF ?_)
    | ((with_reducible refine acall_id ?_); refine ACall.fn0 hT rfl ?_; rintro _ ⟨gs', rfl, hgm⟩)
    | with_reducible (first | refine zX ?_ | refine zD fun _ => ?_ | refine zD0 ?_ | refine zN ?_ | refine zF0 ?_ | refine zX0 ?_ | refine z1 ?_ | refine z2 ?_ | refine z3 ?_ | refine z4 ?_ | refine z5 ?_ | refine z6 ?_ | refine z7 ?_ | refine z8 ?_ | refine y1 ?_ | refine y2 ?_ | refine y3 ?_ | refine y4 ?_ | refine y5 ?_ | refine y6 ?_ | refine y7 ?_ | refine y8 ?_ | refine Rt.p (fun _ => ?_) fun _ => ?_)
    | ((with_reducible apply w_ixM); (focus exact rfl); (focus exact rfl); case' hk => intro y hy) | ((with_reducible (first | apply w_val | apply q_ends)); (focus exact rfl)))
  have hk := pErr_made hm.g g1 (by omega) (by omega) hm.r
  obtain ⟨hk2, hsz8⟩ := pErr_nm ho hgm hm.g g1 (by omega) (by omega) hm.r
  have hrok : ∀ r ∈ rs, rOK r gs.length := (pOK_of hk).r
  have hsz : ∀ x ∈ gs, x.name.size ≤ 1000 := fun x hx => by have := (madeG_ok hm.g).2 x hx; omega
  have hsz2 : ∀ x ∈ gs', x.name.size ≤ 1000 := fun x hx => by have := hsz8 x hx; omega
  have hl1 := hgm.len
  have hl2 : (rs.map (nmR o)).length = rs.length := List.length_map _
  have hC := Count_c gs rs (by omega) (by omega) hsz
  have hC2 := Count_c gs' (rs.map (nmR o)) (by omega) (by omega) hsz2
  have hB := Best_c gs rs (by omega) (by omega) hsz
  have hB2 := Best_c gs' (rs.map (nmR o)) (by omega) (by omega) hsz2
  have hX := Conflict_c gs rs (by omega) (by omega) hsz
  have hX2 := Conflict_c gs' (rs.map (nmR o)) (by omega) (by omega) hsz2
  rw [if_pos hk, hk] at hC
  rw [if_pos hk2, hk2, okL_nm ho hgm hrok] at hC2
  rw [best_nm ho hgm hrok hk hk2] at hB2
  rw [cf_nm ho hgm hrok hk hk2] at hX2
  generalize (okL gs rs).length = N at hC hC2
  generalize (bestP gs rs).1 = l1 at hB
  generalize (bestP gs' (rs.map (nmR o))).1 = l2 at hB2
  generalize (bestP gs rs).2.1 = bp at hB hB2
  generalize (bestP gs rs).2.2 = be at hB hB2
  generalize (cfP gs rs).1 = cl at hX hX2
  generalize (cfP gs rs).2 = ce at hX hX2
  cases l1 <;> cases l2
  all_goals
    dsimp only [optV] at hB hB2
    repeat' (first
      | with_reducible (first | refine Rd.p ?_ | refine zE ?_ | refine zE0 ?_)
      | with_reducible (first | refine zI fun y hy => ?_ | refine zL ?_ | refine zS ?_ | refine zA fun _ => ?_ | refine zV ?_ | refine zC ?_ | refine zG ?_ | refine zU ?_ | refine zG0 ?_ | refine zU0 ?_ | refine zF ?_)
      | ((with_reducible refine acall_id ?_); refine ACall.val hC rfl rfl ?_)
      | ((with_reducible refine acall_id ?_); refine ACall.val hC2 rfl rfl ?_)
      | ((with_reducible refine acall_id ?_); refine ACall.val hB rfl rfl ?_)
      | ((with_reducible refine acall_id ?_); refine ACall.val hB2 rfl rfl ?_)
      | ((with_reducible refine acall_id ?_); refine ACall.val hX rfl rfl ?_)
      | ((with_reducible refine acall_id ?_); refine ACall.val hX2 rfl rfl ?_)
      | ((with_reducible refine acall_id ?_); refine ACall.val awake_c rfl rfl ?_)
      | with_reducible (first | refine zX ?_ | refine zD fun _ => ?_ | refine zD0 ?_ | refine zN ?_ | refine zF0 ?_ | refine zX0 ?_ | refine z1 ?_ | refine z2 ?_ | refine z3 ?_ | refine z4 ?_ | refine z5 ?_ | refine z6 ?_ | refine z7 ?_ | refine z8 ?_ | refine y1 ?_ | refine y2 ?_ | refine y3 ?_ | refine y4 ?_ | refine y5 ?_ | refine y6 ?_ | refine y7 ?_ | refine y8 ?_ | refine Rt.p (fun _ => ?_) fun _ => ?_)
      | ((with_reducible apply w_ixM); (focus exact rfl); (focus exact rfl); case' hk => intro y hy) | ((with_reducible (first | apply w_val | apply q_ends)); (focus exact rfl)))
    all_goals rfl
end Go.Abs
