/- A part of the proofs of the laws of this seat: contracts of the functions that they reach, each proved of the program's form in Lean. No condition beyond those that each contract names. -/
import Derived.Test.YtmekfgjlcaonjaaK2
import Derived.Test.YtmekfgjlcaonjaaK1
import Derived.Test.YtmekfgjlcaonjaaD1
import Derived.Test.YtmekfgjlcaonjaaC13
import Derived.Test.YtmekfgjlcaonjaaC12
import Derived.Test.YtmekfgjlcaonjaaC11
import Derived.Test.YtmekfgjlcaonjaaC10
import Derived.Test.YtmekfgjlcaonjaaC9
import Derived.Test.YtmekfgjlcaonjaaC8
import Derived.Test.YtmekfgjlcaonjaaC7
import Derived.Test.YtmekfgjlcaonjaaC5
import Derived.Test.YtmekfgjlcaonjaaC4
import Derived.Test.YtmekfgjlcaonjaaC2
import Derived.Test.YtmekfgjlcaonjaaC1
import Derived.Test.YtmekfgjlcaonjaaB
import Derived.Test.YtmekfgjlcaonjaaC3
import Derived.Test.YtmekfgjlcaonjaaD8
set_option linter.unusedVariables false
set_option linter.unusedSimpArgs false
set_option maxRecDepth 20000
set_option maxHeartbeats 4000000
namespace Go.Abs
open Go.Proofs
theorem Stories_s (c : Chn) (ok : Okc c) : Fn0 Try.prog 78 [cA c] (fun v => v = .slc 3 (stL c ((talesF c).map (·.1))) .non) := by
  have hn := ok.n
  have H0 := stories_s c ok c.ls.length [] c.maker [] none (by simp) (fun _ h => by cases h) (fun _ => rfl) (by
    have : 10 ^ c.ls.length ≤ 10 ^ 7 := Nat.pow_le_pow_right (by omega) (by omega)
    simp only [List.length_nil]; omega)
  rw [SLr_tales, List.nil_append] at H0
  have H : RawC Try.prog 120 [cA c, .nsl, .int .i64 c.maker, .nsl] (sg []) (SR (fun (t' : Option Nat) v => v = outV c ((talesF c).map (·.1)) t' ∧ outOK ((talesF c).map (·.1)) t') outR) :=
    RawC.weak (fun _ _ hr => SubL.rel (.cons (Sub.refl _) (.cons Sub.nil (.cons (Sub.refl _) (.cons (Sub.refl _) .nil)))) hr) H0
  have key : Fn0 Try.prog 78 [cA c] (fun v => (v = .nsl ∧ (talesF c).map (·.1) = []) ∨ v = .slc 3 (stL c ((talesF c).map (·.1))) .non) := by
    generalize (talesF c).map (·.1) = T at *
    refine RawC.walk (H := hint78 Try.prog) ir78 Try.func78 rfl rfl rfl ?_
    unfold ir78
    repeat' (first
      | with_reducible (first | refine Rd.p ?_ | refine w_alt ?_ ?_ | refine zE ?_ | refine zE0 ?_)
      | with_reducible (first | refine zI fun y hy => ?_ | refine zL ?_ | refine zS ?_ | refine zA fun _ => ?_ | refine zV ?_ | refine zC ?_ | refine zG ?_ | refine zU ?_ | refine zG0 ?_ | refine zU0 ?_ | refine zF ?_)
      | ((with_reducible refine acall_id ?_); refine ACall.liftS H [] (some 80) rfl rfl rfl trivial (fun _ => rfl) ?_; rintro (_ | g2) _ ⟨rfl, hok2⟩ <;> dsimp only [outV, outX])
      | with_reducible (first | refine zX ?_ | refine zD fun _ => ?_ | refine zD0 ?_ | refine zN ?_ | refine zF0 ?_ | refine zX0 ?_ | refine z1 ?_ | refine z2 ?_ | refine z3 ?_ | refine z4 ?_ | refine z5 ?_ | refine z6 ?_ | refine z7 ?_ | refine z8 ?_ | refine y1 ?_ | refine y2 ?_ | refine y3 ?_ | refine y4 ?_ | refine y5 ?_ | refine y6 ?_ | refine y7 ?_ | refine y8 ?_ | refine Rt.p (fun _ => ?_) fun _ => ?_)
      | ((with_reducible apply w_ixM); (focus exact rfl); (focus exact rfl); case' hk => intro y hy) | ((with_reducible (first | apply w_val | apply q_ends)); (focus exact rfl)))
    · exact .inl ⟨rfl, hok2 rfl⟩
    · exact .inr rfl
  refine RawC.sub key fun a _ h => ?_
  rcases h with ⟨rfl, h⟩ | rfl
  · exact ⟨_, by rw [h]; exact Sub.nil, rfl⟩
  · exact ⟨_, Sub.refl _, rfl⟩
theorem rcheck_s (c : Chn) (hl : c.ls.length < 1000) : Fn0 Try.prog 27 [cA c] (fun v => v = .int .i64 (chainE c)) := by
  by_cases h1 : inB c.maker 0 19 = true
  case neg =>
    have hf : formE c = 2 := by rw [formE, if_neg h1]
    have hE : chainE c = 2 := by rw [chainE, if_neg (by rw [hf]; decide), hf]
    rw [hE]
    refine RawC.walk (H := hint27 Try.prog) ir27 Try.func27 rfl rfl rfl ?_
    unfold ir27
    repeat' (first
      | with_reducible (first | refine Rd.p ?_ | refine w_alt ?_ ?_ | refine zE ?_ | refine zE0 ?_)
      | with_reducible (first | refine zI fun y hy => ?_ | refine zL ?_ | refine zS ?_ | refine zA fun _ => ?_ | refine zV ?_ | refine zC ?_ | refine zG ?_ | refine zU ?_ | refine zG0 ?_ | refine zU0 ?_ | refine zF ?_)
      | ((with_reducible refine acall_id ?_); refine ACall.val (rwithinK_c _ _ _) rfl rfl ?_)
      | ((with_reducible refine acall_id ?_); refine ACall.val (rcheckDay_c _ _) rfl rfl ?_)
      | with_reducible (first | refine zX ?_ | refine zD fun _ => ?_ | refine zD0 ?_ | refine zN ?_ | refine zF0 ?_ | refine zX0 ?_ | refine z1 ?_ | refine z2 ?_ | refine z3 ?_ | refine z4 ?_ | refine z5 ?_ | refine z6 ?_ | refine z7 ?_ | refine z8 ?_ | refine y1 ?_ | refine y2 ?_ | refine y3 ?_ | refine y4 ?_ | refine y5 ?_ | refine y6 ?_ | refine y7 ?_ | refine y8 ?_ | refine Rt.p (fun _ => ?_) fun _ => ?_)
      | ((with_reducible apply w_ixM); (focus exact rfl); (focus exact rfl); case' hk => intro y hy) | ((with_reducible (first | apply w_val | apply q_ends)); (focus exact rfl)))
    all_goals first
      | rfl
      | (exfalso; simp_all; done)
  by_cases h2 : dayE c.lo c.hi = 0
  case neg =>
    have hf : formE c = dayE c.lo c.hi := by rw [formE, if_pos h1, if_neg h2]
    have hE : chainE c = dayE c.lo c.hi := by rw [chainE, if_neg (by rw [hf]; exact h2), hf]
    have hD := rcheckDay_c c.lo c.hi
    have hW := rwithinK_c c.maker 0 19
    rw [h1] at hW
    rw [hE]
    generalize dayE c.lo c.hi = d at *
    refine RawC.walk (H := hint27 Try.prog) ir27 Try.func27 rfl rfl rfl ?_
    unfold ir27
    repeat' (first
      | with_reducible (first | refine Rd.p ?_ | refine w_alt ?_ ?_ | refine zE ?_ | refine zE0 ?_)
      | with_reducible (first | refine zI fun y hy => ?_ | refine zL ?_ | refine zS ?_ | refine zA fun _ => ?_ | refine zV ?_ | refine zC ?_ | refine zG ?_ | refine zU ?_ | refine zG0 ?_ | refine zU0 ?_ | refine zF ?_)
      | ((with_reducible refine acall_id ?_); refine ACall.val hW rfl rfl ?_)
      | ((with_reducible refine acall_id ?_); refine ACall.val hD rfl rfl ?_)
      | with_reducible (first | refine zX ?_ | refine zD fun _ => ?_ | refine zD0 ?_ | refine zN ?_ | refine zF0 ?_ | refine zX0 ?_ | refine z1 ?_ | refine z2 ?_ | refine z3 ?_ | refine z4 ?_ | refine z5 ?_ | refine z6 ?_ | refine z7 ?_ | refine z8 ?_ | refine y1 ?_ | refine y2 ?_ | refine y3 ?_ | refine y4 ?_ | refine y5 ?_ | refine y6 ?_ | refine y7 ?_ | refine y8 ?_ | refine Rt.p (fun _ => ?_) fun _ => ?_)
      | ((with_reducible apply w_ixM); (focus exact rfl); (focus exact rfl); case' hk => intro y hy) | ((with_reducible (first | apply w_val | apply q_ends)); (focus exact rfl)))
    all_goals first
      | rfl
      | (exfalso; simp_all; done)
  have hW := rwithinK_c c.maker 0 19
  have hD := rcheckDay_c c.lo c.hi
  rw [h1] at hW
  rw [h2] at hD
  by_cases h3 : 7 < c.ls.length
  · have hf : formE c = 8 := by rw [formE, if_pos h1, if_pos h2, if_pos h3]
    have hE : chainE c = 8 := by rw [chainE, if_neg (by rw [hf]; decide), hf]
    rw [hE]
    refine RawC.walk (H := hint27 Try.prog) ir27 Try.func27 rfl rfl rfl ?_
    unfold ir27
    repeat' (first
      | with_reducible (first | refine Rd.p ?_ | refine w_alt ?_ ?_ | refine zE ?_ | refine zE0 ?_)
      | with_reducible (first | refine zI fun y hy => ?_ | refine zL ?_ | refine zS ?_ | refine zA fun _ => ?_ | refine zV ?_ | refine zC ?_ | refine zG ?_ | refine zU ?_ | refine zG0 ?_ | refine zU0 ?_ | refine zF ?_)
      | ((with_reducible refine acall_id ?_); refine ACall.val hW rfl rfl ?_)
      | ((with_reducible refine acall_id ?_); refine ACall.val hD rfl rfl ?_)
      | with_reducible (first | refine zX ?_ | refine zD fun _ => ?_ | refine zD0 ?_ | refine zN ?_ | refine zF0 ?_ | refine zX0 ?_ | refine z1 ?_ | refine z2 ?_ | refine z3 ?_ | refine z4 ?_ | refine z5 ?_ | refine z6 ?_ | refine z7 ?_ | refine z8 ?_ | refine y1 ?_ | refine y2 ?_ | refine y3 ?_ | refine y4 ?_ | refine y5 ?_ | refine y6 ?_ | refine y7 ?_ | refine y8 ?_ | refine Rt.p (fun _ => ?_) fun _ => ?_)
      | ((with_reducible apply w_ixM); (focus exact rfl); (focus exact rfl); case' hk => intro y hy) | ((with_reducible (first | apply w_val | apply q_ends)); (focus exact rfl)))
    all_goals first
      | (exfalso; omega)
      | rfl
  have hf : formE c = lnksE c.ls := by rw [formE, if_pos h1, if_pos h2, if_neg h3]
  refine RawC.walk (H := hint27 Try.prog) ir27 Try.func27 rfl rfl rfl ?_
  unfold ir27
  repeat' (first
    | with_reducible (first | refine Rd.p ?_ | refine w_alt ?_ ?_ | refine zE ?_ | refine zE0 ?_)
    | with_reducible (first | refine zI fun y hy => ?_ | refine zL ?_ | refine zS ?_ | refine zA fun _ => ?_ | refine zV ?_ | refine zC ?_ | refine zG ?_ | refine zU ?_ | refine zG0 ?_ | refine zU0 ?_ | refine zF ?_)
    | ((with_reducible refine acall_id ?_); refine ACall.val hW rfl rfl ?_)
    | ((with_reducible refine acall_id ?_); refine ACall.val hD rfl rfl ?_)
    | with_reducible (first | refine zX ?_ | refine zD fun _ => ?_ | refine zD0 ?_ | refine zN ?_ | refine zF0 ?_ | refine zX0 ?_ | refine z1 ?_ | refine z2 ?_ | refine z3 ?_ | refine z4 ?_ | refine z5 ?_ | refine z6 ?_ | refine z7 ?_ | refine z8 ?_ | refine y1 ?_ | refine y2 ?_ | refine y3 ?_ | refine y4 ?_ | refine y5 ?_ | refine y6 ?_ | refine y7 ?_ | refine y8 ?_ | refine Rt.p (fun _ => ?_) fun _ => ?_)
    | ((with_reducible apply w_ixM); (focus exact rfl); (focus exact rfl); case' hk => intro y hy) | ((with_reducible (first | apply w_val | apply q_ends)); (focus exact rfl)))
  all_goals try (exfalso; omega)
  rename_i g1
  refine w_loopK [1] [1] (fun x : List Lnk × List Lnk => c.ls = x.1 ++ x.2 ∧ lnksE c.ls = lnksE x.2) (fun x => x.2.length) (fun x => [(4, .int .i64 x.1.length)]) (fun _ => []) ([], c.ls) ⟨rfl, rfl⟩ ⟨rfl, trivial⟩ trivial ?_
  rintro ⟨pre, post⟩ ⟨hp, hb⟩ e σ
  dsimp only at hp hb ⊢
  have hlen := congrArg List.length hp
  rw [List.length_append] at hlen
  cases post with
  | nil =>
    simp only [List.length_nil] at hlen
    have hf0 : formE c = 0 := by rw [hf, hb]; rfl
    have hS := Stories_s c (formE_0 hf0)
    by_cases ht : talesF c = []
    · have hE : chainE c = 12 := by rw [chainE, if_pos hf0, if_pos ht]
      rw [ht] at hS
      rw [hE]
      repeat' (first
        | with_reducible (first | refine Rd.p ?_ | refine w_alt ?_ ?_ | refine zE ?_ | refine zE0 ?_)
        | with_reducible (first | refine zI fun y hy => ?_ | refine zL ?_ | refine zS ?_ | refine zA fun _ => ?_ | refine zV ?_ | refine zC ?_ | refine zG ?_ | refine zU ?_ | refine zG0 ?_ | refine zU0 ?_ | refine zF ?_)
        | ((with_reducible refine acall_id ?_); refine ACall.val hS rfl rfl ?_)
        | with_reducible (first | refine zX ?_ | refine zD fun _ => ?_ | refine zD0 ?_ | refine zN ?_ | refine zF0 ?_ | refine zX0 ?_ | refine z1 ?_ | refine z2 ?_ | refine z3 ?_ | refine z4 ?_ | refine z5 ?_ | refine z6 ?_ | refine z7 ?_ | refine z8 ?_ | refine y1 ?_ | refine y2 ?_ | refine y3 ?_ | refine y4 ?_ | refine y5 ?_ | refine y6 ?_ | refine y7 ?_ | refine y8 ?_ | refine Rt.p (fun _ => ?_) fun _ => ?_)
        | ((with_reducible apply w_ixM); (focus exact rfl); (focus exact rfl); case' hk => intro y hy) | ((with_reducible (first | apply w_val | apply q_ends)); (focus exact rfl)))
      all_goals first
        | (exfalso; omega)
        | rfl
        | (exfalso; simp_all; done)
    · have hE : chainE c = 0 := by rw [chainE, if_pos hf0, if_neg ht]
      rw [hE]
      have hTl : ((talesF c).map (·.1)).length ≠ 0 := by rw [List.length_map]; exact fun h => ht (List.length_eq_zero_iff.1 h)
      generalize (talesF c).map (·.1) = T at *
      repeat' (first
        | with_reducible (first | refine Rd.p ?_ | refine w_alt ?_ ?_ | refine zE ?_ | refine zE0 ?_)
        | with_reducible (first | refine zI fun y hy => ?_ | refine zL ?_ | refine zS ?_ | refine zA fun _ => ?_ | refine zV ?_ | refine zC ?_ | refine zG ?_ | refine zU ?_ | refine zG0 ?_ | refine zU0 ?_ | refine zF ?_)
        | ((with_reducible refine acall_id ?_); refine ACall.val hS rfl rfl ?_)
        | with_reducible (first | refine zX ?_ | refine zD fun _ => ?_ | refine zD0 ?_ | refine zN ?_ | refine zF0 ?_ | refine zX0 ?_ | refine z1 ?_ | refine z2 ?_ | refine z3 ?_ | refine z4 ?_ | refine z5 ?_ | refine z6 ?_ | refine z7 ?_ | refine z8 ?_ | refine y1 ?_ | refine y2 ?_ | refine y3 ?_ | refine y4 ?_ | refine y5 ?_ | refine y6 ?_ | refine y7 ?_ | refine y8 ?_ | refine Rt.p (fun _ => ?_) fun _ => ?_)
        | ((with_reducible apply w_ixM); (focus exact rfl); (focus exact rfl); case' hk => intro y hy) | ((with_reducible (first | apply w_val | apply q_ends)); (focus exact rfl)))
      all_goals first
        | (exfalso; omega)
        | rfl
        | (exfalso; simp_all; done)
  | cons d post =>
    simp only [List.length_cons] at hlen
    simp only [lnksE] at hb
    obtain ⟨E, hEd⟩ : ∃ E, E = lnkE d := ⟨_, rfl⟩
    have hEd2 := hEd
    unfold lnkE at hEd2
    rw [← hEd] at hb
    have hcE : E ≠ 0 → chainE c = E := fun h => by
      rw [if_neg h] at hb
      rw [chainE, if_neg (by rw [hf, hb]; exact h), hf, hb]
    have hDd := rcheckDay_c d.lo d.hi
    generalize dayE d.lo d.hi = dd at *
    clear hEd
    repeat' (first
      | with_reducible (first | refine Rd.p ?_ | refine w_alt ?_ ?_ | refine zE ?_ | refine zE0 ?_)
      | (refine w_ixP hp rfl rfl ?_)
      | with_reducible (first | refine zI fun y hy => ?_ | refine zL ?_ | refine zS ?_ | refine zA fun _ => ?_ | refine zV ?_ | refine zC ?_ | refine zG ?_ | refine zU ?_ | refine zG0 ?_ | refine zU0 ?_ | refine zF ?_)
      | ((with_reducible refine acall_id ?_); refine ACall.val (rwithinK_c _ _ _) rfl rfl ?_)
      | ((with_reducible refine acall_id ?_); refine ACall.val hDd rfl rfl ?_)
      | with_reducible (first | refine zX ?_ | refine zD fun _ => ?_ | refine zD0 ?_ | refine zN ?_ | refine zF0 ?_ | refine zX0 ?_ | refine z1 ?_ | refine z2 ?_ | refine z3 ?_ | refine z4 ?_ | refine z5 ?_ | refine z6 ?_ | refine z7 ?_ | refine z8 ?_ | refine y1 ?_ | refine y2 ?_ | refine y3 ?_ | refine y4 ?_ | refine y5 ?_ | refine y6 ?_ | refine y7 ?_ | refine y8 ?_ | refine Rt.p (fun _ => ?_) fun _ => ?_)
      | ((with_reducible apply w_ixM); (focus exact rfl); (focus exact rfl); case' hk => intro y hy) | ((with_reducible (first | apply w_val | apply q_ends)); (focus exact rfl)))
    all_goals first
      | (exfalso; omega)
      | (have h2 : E = 2 := by rw [hEd2, if_neg (by simp_all)]
         rw [hcE (by omega), h2]; rfl)
      | (have h2 : E = 3 := by rw [hEd2, if_pos (by simp_all), if_pos (by assumption)]
         rw [hcE (by omega), h2]; rfl)
      | (rename_i hz; have h2 : E = dd := by rw [hEd2, if_pos (by simp_all), if_neg (by assumption)]
         rw [hcE (by rw [h2]; exact hz), h2]; rfl)
      | (have h2 : E = 0 := by rw [hEd2, if_pos (by simp_all), if_neg (by assumption)]; simp_all
         rw [if_pos h2] at hb
         refine q_loop (pre ++ [d], post) ⟨by show c.ls = _; rw [hp]; simp, hb⟩ (by simp) (slots_cons (by show AV.int .i64 _ = AV.int .i64 _; refine int_eq ?_; simp) slots_nil) trivial (by repeat' (first | exact kept_nil | apply kept_cons | rfl)) (by repeat' (first | exact kept_nil | apply kept_cons | rfl)))
end Go.Abs
