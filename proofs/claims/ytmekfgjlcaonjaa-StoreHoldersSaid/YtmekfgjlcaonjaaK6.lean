/- A part of the proofs of the laws of this seat: contracts of the functions that they reach, each proved of the program's form in Lean. No condition beyond those that each contract names. -/
import Derived.Test.YtmekfgjlcaonjaaK5
import Derived.Test.YtmekfgjlcaonjaaK4
import Derived.Test.YtmekfgjlcaonjaaK3
import Derived.Test.YtmekfgjlcaonjaaK2
import Derived.Test.YtmekfgjlcaonjaaK1
import Derived.Test.YtmekfgjlcaonjaaD8
import Derived.Test.YtmekfgjlcaonjaaD7
import Derived.Test.YtmekfgjlcaonjaaD5
import Derived.Test.YtmekfgjlcaonjaaD4
import Derived.Test.YtmekfgjlcaonjaaD3
import Derived.Test.YtmekfgjlcaonjaaD2
import Derived.Test.YtmekfgjlcaonjaaD1
import Derived.Test.YtmekfgjlcaonjaaC13
import Derived.Test.YtmekfgjlcaonjaaC12
import Derived.Test.YtmekfgjlcaonjaaC11
import Derived.Test.YtmekfgjlcaonjaaC10
import Derived.Test.YtmekfgjlcaonjaaC9
import Derived.Test.YtmekfgjlcaonjaaC8
import Derived.Test.YtmekfgjlcaonjaaC7
import Derived.Test.YtmekfgjlcaonjaaC5
import Derived.Test.YtmekfgjlcaonjaaC4
import Derived.Test.YtmekfgjlcaonjaaC2
import Derived.Test.YtmekfgjlcaonjaaC1
import Derived.Test.YtmekfgjlcaonjaaB
import Derived.Test.YtmekfgjlcaonjaaC6
import Derived.Test.YtmekfgjlcaonjaaC3
set_option linter.unusedVariables false
set_option linter.unusedSimpArgs false
set_option maxRecDepth 20000
set_option maxHeartbeats 4000000
namespace Go.Abs
open Go.Proofs
theorem ofB_hol {c : Chn} {day : Int} {B : List Bool} (h : MrkB B (holdC c day)) : ((List.range 21).filter fun k => B.getD k false).map (fun (k : Nat) => (k : Int) - 1) = holL c day := by
  classical
  unfold holL
  rw [List.filter_map]
  refine congrArg (List.map _) (List.filter_congr fun k hk => ?_)
  have hk : k < 21 := List.mem_range.1 hk
  have := h.2 k hk
  show B.getD k false = @decide (holdC c day ((k : Int) - 1)) _
  cases hb : B.getD k false with
  | true => rw [hb] at this; exact (decide_eq_true (this.1 rfl)).symm
  | false => rw [hb] at this; exact (decide_eq_false fun h2 => by have := this.2 h2; cases this).symm
def hlB (B : List Bool) (k : Nat) : List Int := ((List.range k).filter fun j => B.getD j false).map (fun (k : Nat) => (k : Int) - 1)
theorem hlB_succ (B : List Bool) (k : Nat) : hlB B (k + 1) = hlB B k ++ (if B.getD k false = true then [(k : Int) - 1] else []) := by
  unfold hlB
  rw [List.range_succ, List.filter_append, List.map_append]
  refine congrArg _ ?_
  cases hb : B.getD k false with
  | true => simp only [List.filter_cons, List.filter_nil, hb]; rfl
  | false => simp only [List.filter_cons, List.filter_nil, hb]; rfl
theorem hlB_len (B : List Bool) (k : Nat) : (hlB B k).length ≤ k := by
  unfold hlB
  rw [List.length_map]
  exact Nat.le_trans (List.length_filter_le _ _) (by simp)
theorem rHolders_s (c : Chn) (day : Int) (hl : c.ls.length < 1000) : Fn0 Try.prog 52 [cA c, .int .i64 day] (fun v => v = .tup [if askE c day = 0 then .slc 1 (iR (holL c day)) .non else .nsl, .int .i64 (askE c day)]) := by
  have hck := rcheck_s c hl
  by_cases he : chainE c = 0
  case neg =>
    have ha : askE c day = chainE c := by rw [askE, if_neg he]
    rw [if_neg (by rw [ha]; exact he), ha]
    generalize chainE c = E at *
    refine RawC.walk (H := hint52 Try.prog) ir52 Try.func52 rfl rfl rfl ?_
    unfold ir52
    repeat' (first
      | with_reducible (first | refine Rd.p ?_ | refine w_alt ?_ ?_ | refine zE ?_ | refine zE0 ?_)
      | with_reducible (first | refine zI fun y hy => ?_ | refine zL ?_ | refine zS ?_ | refine zA fun _ => ?_ | refine zV ?_ | refine zC ?_ | refine zG ?_ | refine zU ?_ | refine zG0 ?_ | refine zU0 ?_ | refine zF ?_)
      | ((with_reducible refine acall_id ?_); refine ACall.val hck rfl rfl ?_)
      | with_reducible (first | refine zX ?_ | refine zD fun _ => ?_ | refine zD0 ?_ | refine zN ?_ | refine zF0 ?_ | refine zX0 ?_ | refine z1 ?_ | refine z2 ?_ | refine z3 ?_ | refine z4 ?_ | refine z5 ?_ | refine z6 ?_ | refine z7 ?_ | refine z8 ?_ | refine y1 ?_ | refine y2 ?_ | refine y3 ?_ | refine y4 ?_ | refine y5 ?_ | refine y6 ?_ | refine y7 ?_ | refine y8 ?_ | refine Rt.p (fun _ => ?_) fun _ => ?_)
      | ((with_reducible apply w_ixM); (focus exact rfl); (focus exact rfl); case' hk => intro y hy) | ((with_reducible (first | apply w_val | apply q_ends)); (focus exact rfl)))
    rfl
  rw [he] at hck
  have hW := rwithinK_c day 0 100000
  by_cases hd : inB day 0 100000 = true
  case neg =>
    have ha : askE c day = 2 := by rw [askE, if_pos he, if_neg hd]
    rw [if_neg (by rw [ha]; decide), ha]
    have hd : inB day 0 100000 = false := by simpa using hd
    rw [hd] at hW
    refine RawC.walk (H := hint52 Try.prog) ir52 Try.func52 rfl rfl rfl ?_
    unfold ir52
    repeat' (first
      | with_reducible (first | refine Rd.p ?_ | refine w_alt ?_ ?_ | refine zE ?_ | refine zE0 ?_)
      | with_reducible (first | refine zI fun y hy => ?_ | refine zL ?_ | refine zS ?_ | refine zA fun _ => ?_ | refine zV ?_ | refine zC ?_ | refine zG ?_ | refine zU ?_ | refine zG0 ?_ | refine zU0 ?_ | refine zF ?_)
      | ((with_reducible refine acall_id ?_); refine ACall.val hck rfl rfl ?_)
      | ((with_reducible refine acall_id ?_); refine ACall.val hW rfl rfl ?_)
      | with_reducible (first | refine zX ?_ | refine zD fun _ => ?_ | refine zD0 ?_ | refine zN ?_ | refine zF0 ?_ | refine zX0 ?_ | refine z1 ?_ | refine z2 ?_ | refine z3 ?_ | refine z4 ?_ | refine z5 ?_ | refine z6 ?_ | refine z7 ?_ | refine z8 ?_ | refine y1 ?_ | refine y2 ?_ | refine y3 ?_ | refine y4 ?_ | refine y5 ?_ | refine y6 ?_ | refine y7 ?_ | refine y8 ?_ | refine Rt.p (fun _ => ?_) fun _ => ?_)
      | ((with_reducible apply w_ixM); (focus exact rfl); (focus exact rfl); case' hk => intro y hy) | ((with_reducible (first | apply w_val | apply q_ends)); (focus exact rfl)))
    rfl
  have ha : askE c day = 0 := by rw [askE, if_pos he, if_pos hd]
  rw [if_pos ha, ha]
  rw [hd] at hW
  have ok := formE_0 (chainE_0 he).1
  have hH := rholders_s c day ok
  refine RawC.walk (H := hint52 Try.prog) ir52 Try.func52 rfl rfl rfl ?_
  unfold ir52
  repeat' (first
    | with_reducible (first | refine Rd.p ?_ | refine w_alt ?_ ?_ | refine zE ?_ | refine zE0 ?_)
    | with_reducible (first | refine zI fun y hy => ?_ | refine zL ?_ | refine zS ?_ | refine zA fun _ => ?_ | refine zV ?_ | refine zC ?_ | refine zG ?_ | refine zU ?_ | refine zG0 ?_ | refine zU0 ?_ | refine zF ?_)
    | ((with_reducible refine acall_id ?_); refine ACall.val hck rfl rfl ?_)
    | ((with_reducible refine acall_id ?_); refine ACall.val hW rfl rfl ?_)
    | ((with_reducible refine acall_id ?_); refine ACall.fn0 hH rfl ?_; rintro _ ⟨B, rfl, hB⟩)
    | with_reducible (first | refine zX ?_ | refine zD fun _ => ?_ | refine zD0 ?_ | refine zN ?_ | refine zF0 ?_ | refine zX0 ?_ | refine z1 ?_ | refine z2 ?_ | refine z3 ?_ | refine z4 ?_ | refine z5 ?_ | refine z6 ?_ | refine z7 ?_ | refine z8 ?_ | refine y1 ?_ | refine y2 ?_ | refine y3 ?_ | refine y4 ?_ | refine y5 ?_ | refine y6 ?_ | refine y7 ?_ | refine y8 ?_ | refine Rt.p (fun _ => ?_) fun _ => ?_)
    | ((with_reducible apply w_ixM); (focus exact rfl); (focus exact rfl); case' hk => intro y hy) | ((with_reducible (first | apply w_val | apply q_ends)); (focus exact rfl)))
  rename_i g7
  have hBe := ofB_hol hB
  have hBl := hB.1
  rw [← hBe]
  clear hB hBe
  refine w_loopK [8] [] (fun x : Nat × Nat => x.1 ≤ 21) (fun x => 21 - x.1) (fun x => [(9, .int .i64 x.1), (7, .slc 1 (iR (hlB B x.1)) (.own 7 x.2))]) (fun x => [(7, (x.2, .row []))]) (0, g7) (Nat.zero_le _) ⟨rfl, rfl, trivial⟩ (by exact ⟨rfl, trivial⟩) ?_
  rintro ⟨k, g7⟩ hk e σ
  dsimp only at hk ⊢
  have hhl := hlB_len B k
  by_cases hk21 : k < 21
  · have hsu := hlB_succ B k
    have hgk : B[k]? = some (B.getD k false) := by rw [List.getD_eq_getElem?_getD, List.getElem?_eq_getElem (by omega)]; rfl
    cases hb : B.getD k false with
    | true =>
      rw [hb] at hsu hgk
      rw [if_pos rfl] at hsu
      generalize hlB B k = HL at *
      repeat' (first
        | with_reducible (first | refine Rd.p ?_ | refine w_alt ?_ ?_ | refine zE ?_ | refine zE0 ?_)
        | (refine w_ixE (f := fun b => [.bool b]) hgk rfl rfl ?_)
        | with_reducible (first | refine zI fun y hy => ?_ | refine zL ?_ | refine zS ?_ | refine zA fun _ => ?_ | refine zV ?_ | refine zC ?_ | refine zG ?_ | refine zU ?_ | refine zG0 ?_ | refine zU0 ?_ | refine zF ?_)
        | with_reducible (first | refine zX ?_ | refine zD fun _ => ?_ | refine zD0 ?_ | refine zN ?_ | refine zF0 ?_ | refine zX0 ?_ | refine z1 ?_ | refine z2 ?_ | refine z3 ?_ | refine z4 ?_ | refine z5 ?_ | refine z6 ?_ | refine z7 ?_ | refine z8 ?_ | refine y1 ?_ | refine y2 ?_ | refine y3 ?_ | refine y4 ?_ | refine y5 ?_ | refine y6 ?_ | refine y7 ?_ | refine y8 ?_ | refine Rt.p (fun _ => ?_) fun _ => ?_)
        | ((with_reducible apply w_ixM); (focus exact rfl); (focus exact rfl); case' hk => intro y hy) | ((with_reducible (first | apply w_val | apply q_ends)); (focus exact rfl)))
      all_goals first
        | (exfalso; omega)
        | (refine q_loop (k + 1, _) (by show k + 1 ≤ 21; omega) (by show 21 - (k + 1) < 21 - k; omega) (slots_cons (by show AV.int .i64 _ = AV.int .i64 _; refine int_eq ?_; simp) (slots_cons (by show _ = AV.slc 1 (iR (hlB B (k + 1))) _; rw [hsu]; rfl) slots_nil)) (by exact ⟨rfl, trivial⟩) (by repeat' (first | exact kept_nil | apply kept_cons | rfl)) (by repeat' (first | exact kept_nil | apply kept_cons | rfl)))
    | false =>
      rw [hb] at hsu hgk
      rw [if_neg (by simp), List.append_nil] at hsu
      repeat' (first
        | with_reducible (first | refine Rd.p ?_ | refine w_alt ?_ ?_ | refine zE ?_ | refine zE0 ?_)
        | (refine w_ixE (f := fun b => [.bool b]) hgk rfl rfl ?_)
        | with_reducible (first | refine zI fun y hy => ?_ | refine zL ?_ | refine zS ?_ | refine zA fun _ => ?_ | refine zV ?_ | refine zC ?_ | refine zG ?_ | refine zU ?_ | refine zG0 ?_ | refine zU0 ?_ | refine zF ?_)
        | with_reducible (first | refine zX ?_ | refine zD fun _ => ?_ | refine zD0 ?_ | refine zN ?_ | refine zF0 ?_ | refine zX0 ?_ | refine z1 ?_ | refine z2 ?_ | refine z3 ?_ | refine z4 ?_ | refine z5 ?_ | refine z6 ?_ | refine z7 ?_ | refine z8 ?_ | refine y1 ?_ | refine y2 ?_ | refine y3 ?_ | refine y4 ?_ | refine y5 ?_ | refine y6 ?_ | refine y7 ?_ | refine y8 ?_ | refine Rt.p (fun _ => ?_) fun _ => ?_)
        | ((with_reducible apply w_ixM); (focus exact rfl); (focus exact rfl); case' hk => intro y hy) | ((with_reducible (first | apply w_val | apply q_ends)); (focus exact rfl)))
      all_goals first
        | (exfalso; omega)
        | (refine q_loop (k + 1, _) (by show k + 1 ≤ 21; omega) (by show 21 - (k + 1) < 21 - k; omega) (slots_cons (by show AV.int .i64 _ = AV.int .i64 _; refine int_eq ?_; simp) (slots_cons (by show _ = AV.slc 1 (iR (hlB B (k + 1))) _; rw [hsu]; rfl) slots_nil)) (by exact ⟨rfl, trivial⟩) (by repeat' (first | exact kept_nil | apply kept_cons | rfl)) (by repeat' (first | exact kept_nil | apply kept_cons | rfl)))
  · obtain rfl : k = 21 := by omega
    repeat' (first
      | with_reducible (first | refine Rd.p ?_ | refine w_alt ?_ ?_ | refine zE ?_ | refine zE0 ?_)
      | with_reducible (first | refine zI fun y hy => ?_ | refine zL ?_ | refine zS ?_ | refine zA fun _ => ?_ | refine zV ?_ | refine zC ?_ | refine zG ?_ | refine zU ?_ | refine zG0 ?_ | refine zU0 ?_ | refine zF ?_)
      | with_reducible (first | refine zX ?_ | refine zD fun _ => ?_ | refine zD0 ?_ | refine zN ?_ | refine zF0 ?_ | refine zX0 ?_ | refine z1 ?_ | refine z2 ?_ | refine z3 ?_ | refine z4 ?_ | refine z5 ?_ | refine z6 ?_ | refine z7 ?_ | refine z8 ?_ | refine y1 ?_ | refine y2 ?_ | refine y3 ?_ | refine y4 ?_ | refine y5 ?_ | refine y6 ?_ | refine y7 ?_ | refine y8 ?_ | refine Rt.p (fun _ => ?_) fun _ => ?_)
      | ((with_reducible apply w_ixM); (focus exact rfl); (focus exact rfl); case' hk => intro y hy) | ((with_reducible (first | apply w_val | apply q_ends)); (focus exact rfl)))
    all_goals first
      | (exfalso; omega)
      | rfl
theorem rOwned_s (c : Chn) (who day : Int) (hl : c.ls.length < 1000) : Fn0 Try.prog 54 [cA c, .int .i64 who, .int .i64 day] (fun v => v = .tup [.int .i64 (ownV c who day).1, .int .i64 (ownV c who day).2]) := by
  have hH := rHolders_s c day hl
  by_cases ha : askE c day = 0
  case neg =>
    rw [if_neg ha] at hH
    rw [ownV, if_neg ha]
    generalize askE c day = E at *
    refine RawC.walk (H := hint54 Try.prog) ir54 Try.func54 rfl rfl rfl ?_
    unfold ir54
    repeat' (first
      | with_reducible (first | refine Rd.p ?_ | refine w_alt ?_ ?_ | refine zE ?_ | refine zE0 ?_)
      | with_reducible (first | refine zI fun y hy => ?_ | refine zL ?_ | refine zS ?_ | refine zA fun _ => ?_ | refine zV ?_ | refine zC ?_ | refine zG ?_ | refine zU ?_ | refine zG0 ?_ | refine zU0 ?_ | refine zF ?_)
      | ((with_reducible refine acall_id ?_); refine ACall.val hH rfl rfl ?_)
      | with_reducible (first | refine zX ?_ | refine zD fun _ => ?_ | refine zD0 ?_ | refine zN ?_ | refine zF0 ?_ | refine zX0 ?_ | refine z1 ?_ | refine z2 ?_ | refine z3 ?_ | refine z4 ?_ | refine z5 ?_ | refine z6 ?_ | refine z7 ?_ | refine z8 ?_ | refine y1 ?_ | refine y2 ?_ | refine y3 ?_ | refine y4 ?_ | refine y5 ?_ | refine y6 ?_ | refine y7 ?_ | refine y8 ?_ | refine Rt.p (fun _ => ?_) fun _ => ?_)
      | ((with_reducible apply w_ixM); (focus exact rfl); (focus exact rfl); case' hk => intro y hy) | ((with_reducible (first | apply w_val | apply q_ends)); (focus exact rfl)))
    rfl
  rw [if_pos ha, ha] at hH
  have hW := rwithinK_c who 0 19
  by_cases hw : inB who 0 19 = true
  case neg =>
    rw [ownV, if_pos ha, if_neg hw]
    have hw : inB who 0 19 = false := by simpa using hw
    rw [hw] at hW
    refine RawC.walk (H := hint54 Try.prog) ir54 Try.func54 rfl rfl rfl ?_
    unfold ir54
    repeat' (first
      | with_reducible (first | refine Rd.p ?_ | refine w_alt ?_ ?_ | refine zE ?_ | refine zE0 ?_)
      | with_reducible (first | refine zI fun y hy => ?_ | refine zL ?_ | refine zS ?_ | refine zA fun _ => ?_ | refine zV ?_ | refine zC ?_ | refine zG ?_ | refine zU ?_ | refine zG0 ?_ | refine zU0 ?_ | refine zF ?_)
      | ((with_reducible refine acall_id ?_); refine ACall.val hH rfl rfl ?_)
      | ((with_reducible refine acall_id ?_); refine ACall.val hW rfl rfl ?_)
      | with_reducible (first | refine zX ?_ | refine zD fun _ => ?_ | refine zD0 ?_ | refine zN ?_ | refine zF0 ?_ | refine zX0 ?_ | refine z1 ?_ | refine z2 ?_ | refine z3 ?_ | refine z4 ?_ | refine z5 ?_ | refine z6 ?_ | refine z7 ?_ | refine z8 ?_ | refine y1 ?_ | refine y2 ?_ | refine y3 ?_ | refine y4 ?_ | refine y5 ?_ | refine y6 ?_ | refine y7 ?_ | refine y8 ?_ | refine Rt.p (fun _ => ?_) fun _ => ?_)
      | ((with_reducible apply w_ixM); (focus exact rfl); (focus exact rfl); case' hk => intro y hy) | ((with_reducible (first | apply w_val | apply q_ends)); (focus exact rfl)))
    rfl
  rw [ownV, if_pos ha, if_pos hw]
  rw [hw] at hW
  have hLl : (holL c day).length ≤ 21 := by
    unfold holL
    exact Nat.le_trans (List.length_filter_le _ _) (by simp)
  generalize holL c day = L at *
  refine RawC.walk (H := hint54 Try.prog) ir54 Try.func54 rfl rfl rfl ?_
  unfold ir54
  repeat' (first
    | with_reducible (first | refine Rd.p ?_ | refine w_alt ?_ ?_ | refine zE ?_ | refine zE0 ?_)
    | with_reducible (first | refine zI fun y hy => ?_ | refine zL ?_ | refine zS ?_ | refine zA fun _ => ?_ | refine zV ?_ | refine zC ?_ | refine zG ?_ | refine zU ?_ | refine zG0 ?_ | refine zU0 ?_ | refine zF ?_)
    | ((with_reducible refine acall_id ?_); refine ACall.val hH rfl rfl ?_)
    | ((with_reducible refine acall_id ?_); refine ACall.val hW rfl rfl ?_)
    | with_reducible (first | refine zX ?_ | refine zD fun _ => ?_ | refine zD0 ?_ | refine zN ?_ | refine zF0 ?_ | refine zX0 ?_ | refine z1 ?_ | refine z2 ?_ | refine z3 ?_ | refine z4 ?_ | refine z5 ?_ | refine z6 ?_ | refine z7 ?_ | refine z8 ?_ | refine y1 ?_ | refine y2 ?_ | refine y3 ?_ | refine y4 ?_ | refine y5 ?_ | refine y6 ?_ | refine y7 ?_ | refine y8 ?_ | refine Rt.p (fun _ => ?_) fun _ => ?_)
    | ((with_reducible apply w_ixM); (focus exact rfl); (focus exact rfl); case' hk => intro y hy) | ((with_reducible (first | apply w_val | apply q_ends)); (focus exact rfl)))
  refine w_loopK [1, 8] [] (fun x : List Int × List Int => L = x.1 ++ x.2 ∧ who ∉ x.1) (fun x => x.2.length) (fun x => [(10, .int .i64 x.1.length)]) (fun _ => []) ([], L) ⟨rfl, fun h => by cases h⟩ ⟨rfl, trivial⟩ trivial ?_
  rintro ⟨pre, post⟩ ⟨hpp, hnm⟩ e σ
  dsimp only at hpp hnm ⊢
  have hlen := congrArg List.length hpp
  rw [List.length_append] at hlen
  cases post with
  | nil =>
    simp only [List.length_nil] at hlen
    rw [List.append_nil] at hpp
    rw [if_neg (by rw [hpp]; exact hnm)]
    repeat' (first
      | with_reducible (first | refine Rd.p ?_ | refine w_alt ?_ ?_ | refine zE ?_ | refine zE0 ?_)
      | with_reducible (first | refine zI fun y hy => ?_ | refine zL ?_ | refine zS ?_ | refine zA fun _ => ?_ | refine zV ?_ | refine zC ?_ | refine zG ?_ | refine zU ?_ | refine zG0 ?_ | refine zU0 ?_ | refine zF ?_)
      | with_reducible (first | refine zX ?_ | refine zD fun _ => ?_ | refine zD0 ?_ | refine zN ?_ | refine zF0 ?_ | refine zX0 ?_ | refine z1 ?_ | refine z2 ?_ | refine z3 ?_ | refine z4 ?_ | refine z5 ?_ | refine z6 ?_ | refine z7 ?_ | refine z8 ?_ | refine y1 ?_ | refine y2 ?_ | refine y3 ?_ | refine y4 ?_ | refine y5 ?_ | refine y6 ?_ | refine y7 ?_ | refine y8 ?_ | refine Rt.p (fun _ => ?_) fun _ => ?_)
      | ((with_reducible apply w_ixM); (focus exact rfl); (focus exact rfl); case' hk => intro y hy) | ((with_reducible (first | apply w_val | apply q_ends)); (focus exact rfl)))
    all_goals first
      | (exfalso; omega)
      | rfl
  | cons y post =>
    simp only [List.length_cons] at hlen
    have hgy : L[pre.length]? = some y := by rw [hpp]; simp
    by_cases hy : y = who
    · rw [if_pos (by rw [hpp, ← hy]; simp)]
      by_cases h1 : L.length = 1
      · rw [if_pos h1]
        repeat' (first
          | with_reducible (first | refine Rd.p ?_ | refine w_alt ?_ ?_ | refine zE ?_ | refine zE0 ?_)
          | (refine w_ixE hgy rfl rfl ?_)
          | with_reducible (first | refine zI fun y hy => ?_ | refine zL ?_ | refine zS ?_ | refine zA fun _ => ?_ | refine zV ?_ | refine zC ?_ | refine zG ?_ | refine zU ?_ | refine zG0 ?_ | refine zU0 ?_ | refine zF ?_)
          | with_reducible (first | refine zX ?_ | refine zD fun _ => ?_ | refine zD0 ?_ | refine zN ?_ | refine zF0 ?_ | refine zX0 ?_ | refine z1 ?_ | refine z2 ?_ | refine z3 ?_ | refine z4 ?_ | refine z5 ?_ | refine z6 ?_ | refine z7 ?_ | refine z8 ?_ | refine y1 ?_ | refine y2 ?_ | refine y3 ?_ | refine y4 ?_ | refine y5 ?_ | refine y6 ?_ | refine y7 ?_ | refine y8 ?_ | refine Rt.p (fun _ => ?_) fun _ => ?_)
          | ((with_reducible apply w_ixM); (focus exact rfl); (focus exact rfl); case' hk => intro y hy) | ((with_reducible (first | apply w_val | apply q_ends)); (focus exact rfl)))
        all_goals first
          | (exfalso; omega)
          | rfl
      · rw [if_neg h1]
        repeat' (first
          | with_reducible (first | refine Rd.p ?_ | refine w_alt ?_ ?_ | refine zE ?_ | refine zE0 ?_)
          | (refine w_ixE hgy rfl rfl ?_)
          | with_reducible (first | refine zI fun y hy => ?_ | refine zL ?_ | refine zS ?_ | refine zA fun _ => ?_ | refine zV ?_ | refine zC ?_ | refine zG ?_ | refine zU ?_ | refine zG0 ?_ | refine zU0 ?_ | refine zF ?_)
          | with_reducible (first | refine zX ?_ | refine zD fun _ => ?_ | refine zD0 ?_ | refine zN ?_ | refine zF0 ?_ | refine zX0 ?_ | refine z1 ?_ | refine z2 ?_ | refine z3 ?_ | refine z4 ?_ | refine z5 ?_ | refine z6 ?_ | refine z7 ?_ | refine z8 ?_ | refine y1 ?_ | refine y2 ?_ | refine y3 ?_ | refine y4 ?_ | refine y5 ?_ | refine y6 ?_ | refine y7 ?_ | refine y8 ?_ | refine Rt.p (fun _ => ?_) fun _ => ?_)
          | ((with_reducible apply w_ixM); (focus exact rfl); (focus exact rfl); case' hk => intro y hy) | ((with_reducible (first | apply w_val | apply q_ends)); (focus exact rfl)))
        all_goals first
          | (exfalso; omega)
          | rfl
    · repeat' (first
        | with_reducible (first | refine Rd.p ?_ | refine w_alt ?_ ?_ | refine zE ?_ | refine zE0 ?_)
        | (refine w_ixE hgy rfl rfl ?_)
        | with_reducible (first | refine zI fun y hy => ?_ | refine zL ?_ | refine zS ?_ | refine zA fun _ => ?_ | refine zV ?_ | refine zC ?_ | refine zG ?_ | refine zU ?_ | refine zG0 ?_ | refine zU0 ?_ | refine zF ?_)
        | with_reducible (first | refine zX ?_ | refine zD fun _ => ?_ | refine zD0 ?_ | refine zN ?_ | refine zF0 ?_ | refine zX0 ?_ | refine z1 ?_ | refine z2 ?_ | refine z3 ?_ | refine z4 ?_ | refine z5 ?_ | refine z6 ?_ | refine z7 ?_ | refine z8 ?_ | refine y1 ?_ | refine y2 ?_ | refine y3 ?_ | refine y4 ?_ | refine y5 ?_ | refine y6 ?_ | refine y7 ?_ | refine y8 ?_ | refine Rt.p (fun _ => ?_) fun _ => ?_)
        | ((with_reducible apply w_ixM); (focus exact rfl); (focus exact rfl); case' hk => intro y hy) | ((with_reducible (first | apply w_val | apply q_ends)); (focus exact rfl)))
      all_goals first
        | (exfalso; omega)
        | (refine q_loop (pre ++ [y], post) ⟨by show L = _; rw [hpp]; simp, fun h => ?_⟩ (by simp) (slots_cons (by show AV.int .i64 _ = AV.int .i64 _; refine int_eq ?_; simp) slots_nil) trivial (by repeat' (first | exact kept_nil | apply kept_cons | rfl)) (by repeat' (first | exact kept_nil | apply kept_cons | rfl))
           rcases List.mem_append.1 h with h | h
           · exact hnm h
           · exact hy (List.mem_singleton.1 h).symm)
end Go.Abs
