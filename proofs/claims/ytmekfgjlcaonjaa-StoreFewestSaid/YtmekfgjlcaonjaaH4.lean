/- A part of the proofs of the laws of this seat: contracts of the functions that they reach, each proved of the program's form in Lean. No condition beyond those that each contract names. -/
import Derived.Test.YtmekfgjlcaonjaaH3
import Derived.Test.YtmekfgjlcaonjaaH2
import Derived.Test.YtmekfgjlcaonjaaH1
import Derived.Test.YtmekfgjlcaonjaaE7
import Derived.Test.YtmekfgjlcaonjaaE6
import Derived.Test.YtmekfgjlcaonjaaE5
import Derived.Test.YtmekfgjlcaonjaaC10
import Derived.Test.YtmekfgjlcaonjaaC2
import Derived.Test.YtmekfgjlcaonjaaC1
import Derived.Test.YtmekfgjlcaonjaaB
import Derived.Test.YtmekfgjlcaonjaaE2
import Derived.Test.YtmekfgjlcaonjaaC19
import Derived.Test.YtmekfgjlcaonjaaC17
import Derived.Test.YtmekfgjlcaonjaaC14
import Derived.Test.YtmekfgjlcaonjaaC13
import Derived.Test.YtmekfgjlcaonjaaC12
import Derived.Test.YtmekfgjlcaonjaaC11
import Derived.Test.YtmekfgjlcaonjaaC9
import Derived.Test.YtmekfgjlcaonjaaC8
import Derived.Test.YtmekfgjlcaonjaaC7
import Derived.Test.YtmekfgjlcaonjaaC5
import Derived.Test.YtmekfgjlcaonjaaC4
import Derived.Test.YtmekfgjlcaonjaaC18
import Derived.Test.YtmekfgjlcaonjaaC16
import Derived.Test.YtmekfgjlcaonjaaD8
set_option linter.unusedVariables false
set_option linter.unusedSimpArgs false
set_option maxRecDepth 20000
set_option maxHeartbeats 400000
namespace Go.Abs
open Go.Proofs
theorem plans_s (s : Sea) (he : seaE s = 0) (n : Nat) (hn : 1 ≤ n ∧ n ≤ 9) : Fn0 Try.prog 51 [seA s, .int .i64 n] (fun v => v = .slc 1 (llR (plansL s n)) .non) := by
  have ok := okS_of he
  have hA := all_s n hn
  have hC := combR_c s ok.s4 ok.s6
  have hcnt := rgs_cnt n [] 0 (by show (0 : Int) ≤ _; omega) (by omega)
  have hpw : 10 ^ n ≤ 10 ^ 9 := Nat.pow_le_pow_right (by omega) hn.2
  obtain ⟨F, hF⟩ : ∃ F : List Int → Bool, F = fun q => decide (usedF q ≤ combF s.ss) := ⟨_, rfl⟩
  have hP : plansL s n = (rgsK n []).filter F := by rw [hF]; rfl
  rw [hP]
  refine RawC.walk (H := hint51 Try.prog) ir51 Try.func51 rfl rfl rfl ?_
  unfold ir51
  repeat' (first
    | with_reducible (first | refine Rd.p ?_ | refine w_alt ?_ ?_ | refine zE ?_ | refine zE0 ?_)
    | with_reducible (first | refine zI fun y hy => ?_ | refine zL ?_ | refine zS ?_ | refine zA fun _ => ?_ | refine zV ?_ | refine zC ?_ | refine zG ?_ | refine zU ?_ | refine zG0 ?_ | refine zU0 ?_ | refine zF ?_)
    | ((with_reducible refine acall_id ?_); refine ACall.val hA rfl rfl ?_)
    | with_reducible (first | refine zX ?_ | refine zD fun _ => ?_ | refine zD0 ?_ | refine zN ?_ | refine zF0 ?_ | refine zX0 ?_ | refine z1 ?_ | refine z2 ?_ | refine z3 ?_ | refine z4 ?_ | refine z5 ?_ | refine z6 ?_ | refine z7 ?_ | refine z8 ?_ | refine y1 ?_ | refine y2 ?_ | refine y3 ?_ | refine y4 ?_ | refine y5 ?_ | refine y6 ?_ | refine y7 ?_ | refine y8 ?_ | refine Rt.p (fun _ => ?_) fun _ => ?_)
    | ((with_reducible apply w_ixM); (focus exact rfl); (focus exact rfl); case' hk => intro y hy) | ((with_reducible (first | apply w_val | apply q_ends)); (focus exact rfl)))
  rename_i g5
  refine w_loopK [2, 6] [2] (fun x : List (List Int) × List (List Int) × Nat => rgsK n [] = x.1 ++ x.2.1) (fun x => x.2.1.length) (fun x => [(7, .int .i64 x.1.length), (5, .slc 1 (llR (x.1.filter F)) (.own 5 x.2.2))]) (fun x => [(5, (x.2.2, .row []))]) ([], rgsK n [], g5) rfl ⟨rfl, rfl, trivial⟩ (by exact ⟨rfl, trivial⟩) ?_
  rintro ⟨pre, post, g5⟩ hpp e σ
  dsimp only at hpp ⊢
  have hlen := congrArg List.length hpp
  rw [List.length_append] at hlen
  have hfl : (pre.filter F).length ≤ pre.length := List.length_filter_le _ _
  cases post with
  | nil =>
    simp only [List.length_nil] at hlen
    rw [List.append_nil] at hpp
    repeat' (first
      | with_reducible (first | refine Rd.p ?_ | refine w_alt ?_ ?_ | refine zE ?_ | refine zE0 ?_)
      | with_reducible (first | refine zI fun y hy => ?_ | refine zL ?_ | refine zS ?_ | refine zA fun _ => ?_ | refine zV ?_ | refine zC ?_ | refine zG ?_ | refine zU ?_ | refine zG0 ?_ | refine zU0 ?_ | refine zF ?_)
      | with_reducible (first | refine zX ?_ | refine zD fun _ => ?_ | refine zD0 ?_ | refine zN ?_ | refine zF0 ?_ | refine zX0 ?_ | refine z1 ?_ | refine z2 ?_ | refine z3 ?_ | refine z4 ?_ | refine z5 ?_ | refine z6 ?_ | refine z7 ?_ | refine z8 ?_ | refine y1 ?_ | refine y2 ?_ | refine y3 ?_ | refine y4 ?_ | refine y5 ?_ | refine y6 ?_ | refine y7 ?_ | refine y8 ?_ | refine Rt.p (fun _ => ?_) fun _ => ?_)
      | ((with_reducible apply w_ixM); (focus exact rfl); (focus exact rfl); case' hk => intro y hy) | ((with_reducible (first | apply w_val | apply q_ends)); (focus exact rfl)))
    rw [hpp]; rfl
  | cons y post =>
    simp only [List.length_cons] at hlen
    have hy := rgs_bd (k := n) (q := y) (by rw [hpp]; simp)
    have hB := blocks_s y (by omega) (fun x hx => by have := hy.2 x hx; omega)
    have hgy : (rgsK n [])[pre.length]? = some y := by rw [hpp]; simp
    have hfs : ∀ b, F y = b → (pre ++ [y]).filter F = pre.filter F ++ (if b = true then [y] else []) := fun b hb => by
      rw [List.filter_append]
      cases b with
      | true => rw [List.filter_cons_of_pos hb]; rfl
      | false => rw [List.filter_cons_of_neg (by rw [hb]; simp)]; rfl
    cases hFy : F y with
    | true =>
      have h1 := hfs _ hFy
      rw [if_pos rfl] at h1
      rw [hF, decide_eq_true_iff] at hFy
      generalize pre.filter F = pf at *
      repeat' (first
        | with_reducible (first | refine Rd.p ?_ | refine w_alt ?_ ?_ | refine zE ?_ | refine zE0 ?_)
        | (refine w_ixE (f := fun l => [AV.slc 1 (iR l) .non]) hgy rfl rfl ?_)
        | with_reducible (first | refine zI fun y hy => ?_ | refine zL ?_ | refine zS ?_ | refine zA fun _ => ?_ | refine zV ?_ | refine zC ?_ | refine zG ?_ | refine zU ?_ | refine zG0 ?_ | refine zU0 ?_ | refine zF ?_)
        | ((with_reducible refine acall_id ?_); refine ACall.val hB rfl rfl ?_)
        | ((with_reducible refine acall_id ?_); refine ACall.val hC rfl rfl ?_)
        | with_reducible (first | refine zX ?_ | refine zD fun _ => ?_ | refine zD0 ?_ | refine zN ?_ | refine zF0 ?_ | refine zX0 ?_ | refine z1 ?_ | refine z2 ?_ | refine z3 ?_ | refine z4 ?_ | refine z5 ?_ | refine z6 ?_ | refine z7 ?_ | refine z8 ?_ | refine y1 ?_ | refine y2 ?_ | refine y3 ?_ | refine y4 ?_ | refine y5 ?_ | refine y6 ?_ | refine y7 ?_ | refine y8 ?_ | refine Rt.p (fun _ => ?_) fun _ => ?_)
        | ((with_reducible apply w_ixM); (focus exact rfl); (focus exact rfl); case' hk => intro y hy) | ((with_reducible (first | apply w_val | apply q_ends)); (focus exact rfl)))
      all_goals try (exfalso; omega)
      refine q_loop (pre ++ [y], post, _) (by show rgsK n [] = _; rw [hpp]; simp) (by simp) (slots_cons (by show AV.int .i64 _ = AV.int .i64 _; refine int_eq ?_; simp) (slots_cons (by show _ = AV.slc 1 (llR ((pre ++ [y]).filter F)) _; rw [h1]; rfl) slots_nil)) (by exact ⟨rfl, trivial⟩) (by repeat' (first | exact kept_nil | apply kept_cons | rfl)) (by repeat' (first | exact kept_nil | apply kept_cons | rfl))
    | false =>
      have h1 := hfs _ hFy
      rw [if_neg (by simp), List.append_nil] at h1
      rw [hF, decide_eq_false_iff_not] at hFy
      repeat' (first
        | with_reducible (first | refine Rd.p ?_ | refine w_alt ?_ ?_ | refine zE ?_ | refine zE0 ?_)
        | (refine w_ixE (f := fun l => [AV.slc 1 (iR l) .non]) hgy rfl rfl ?_)
        | with_reducible (first | refine zI fun y hy => ?_ | refine zL ?_ | refine zS ?_ | refine zA fun _ => ?_ | refine zV ?_ | refine zC ?_ | refine zG ?_ | refine zU ?_ | refine zG0 ?_ | refine zU0 ?_ | refine zF ?_)
        | ((with_reducible refine acall_id ?_); refine ACall.val hB rfl rfl ?_)
        | ((with_reducible refine acall_id ?_); refine ACall.val hC rfl rfl ?_)
        | with_reducible (first | refine zX ?_ | refine zD fun _ => ?_ | refine zD0 ?_ | refine zN ?_ | refine zF0 ?_ | refine zX0 ?_ | refine z1 ?_ | refine z2 ?_ | refine z3 ?_ | refine z4 ?_ | refine z5 ?_ | refine z6 ?_ | refine z7 ?_ | refine z8 ?_ | refine y1 ?_ | refine y2 ?_ | refine y3 ?_ | refine y4 ?_ | refine y5 ?_ | refine y6 ?_ | refine y7 ?_ | refine y8 ?_ | refine Rt.p (fun _ => ?_) fun _ => ?_)
        | ((with_reducible apply w_ixM); (focus exact rfl); (focus exact rfl); case' hk => intro y hy) | ((with_reducible (first | apply w_val | apply q_ends)); (focus exact rfl)))
      all_goals try (exfalso; omega)
      refine q_loop (pre ++ [y], post, _) (by show rgsK n [] = _; rw [hpp]; simp) (by simp) (slots_cons (by show AV.int .i64 _ = AV.int .i64 _; refine int_eq ?_; simp) (slots_cons (by show _ = AV.slc 1 (llR ((pre ++ [y]).filter F)) _; rw [h1]; rfl) slots_nil)) (by exact ⟨rfl, trivial⟩) (by repeat' (first | exact kept_nil | apply kept_cons | rfl)) (by repeat' (first | exact kept_nil | apply kept_cons | rfl))
theorem plans0_s (s : Sea) : Fn0 Try.prog 51 [seA s, .int .i64 0] (fun v => v = .slc 1 [[.nsl]] .non) := by
  refine RawC.walk (H := hint51 Try.prog) ir51 Try.func51 rfl rfl rfl ?_
  unfold ir51
  repeat' (first
    | with_reducible (first | refine Rd.p ?_ | refine w_alt ?_ ?_ | refine zE ?_ | refine zE0 ?_)
    | with_reducible (first | refine zI fun y hy => ?_ | refine zL ?_ | refine zS ?_ | refine zA fun _ => ?_ | refine zV ?_ | refine zC ?_ | refine zG ?_ | refine zU ?_ | refine zG0 ?_ | refine zU0 ?_ | refine zF ?_)
    | with_reducible (first | refine zX ?_ | refine zD fun _ => ?_ | refine zD0 ?_ | refine zN ?_ | refine zF0 ?_ | refine zX0 ?_ | refine z1 ?_ | refine z2 ?_ | refine z3 ?_ | refine z4 ?_ | refine z5 ?_ | refine z6 ?_ | refine z7 ?_ | refine z8 ?_ | refine y1 ?_ | refine y2 ?_ | refine y3 ?_ | refine y4 ?_ | refine y5 ?_ | refine y6 ?_ | refine y7 ?_ | refine y8 ?_ | refine Rt.p (fun _ => ?_) fun _ => ?_)
    | ((with_reducible apply w_ixM); (focus exact rfl); (focus exact rfl); case' hk => intro y hy) | ((with_reducible (first | apply w_val | apply q_ends)); (focus exact rfl)))
  rfl
/-- The repeats of a plan, by what each guest met. -/
theorem repT_rp {s : Sea} (he : seaE s = 0) {p : List Int} (hl : p.length ≤ s.gs.length) : repT s p 12 = rpS s p := by
  have h := many_eq (s := s) (p := p) (gathsE_of9 he) hl
  rw [← h, repF_many]
  show (0 : Int) + _ = _
  rw [Int.zero_add]; rfl
theorem repV_rp {s : Sea} {p : List Int} (he : seaE s = 0) (hl : p.length ≤ s.gs.length) (hp : ∀ x ∈ p, 0 ≤ x ∧ x < combF s.ss) : repE s p = 0 ∧ (repV s p).2.2 = rpS s p := by
  have h1 : repE s p = 0 := by
    rw [repE, if_pos he, if_neg (by omega), if_pos]
    exact List.all_eq_true.2 fun x hx => inB_t.2 (by have := hp x hx; omega)
  refine ⟨h1, ?_⟩
  rw [repV, if_pos h1, repF_many]
  show (0 : Int) + _ = _
  rw [Int.zero_add]; rfl
theorem plansL_mem {s : Sea} {n : Nat} {q : List Int} : q ∈ plansL s n ↔ q ∈ rgsK n [] ∧ usedF q ≤ combF s.ss := by
  rw [plansL, List.mem_filter, decide_eq_true_iff]
theorem frst_filter {P : List Int → Prop} {L : List (List Int)} {r : List Int} (F : List Int → Bool) (h : Frst P L r) (hF : ∀ q, P q → F q = true) : Frst P (L.filter F) r := by
  obtain ⟨A, B, h1, h2, h3⟩ := h
  refine ⟨A.filter F, B.filter F, by rw [h1, List.filter_append, List.filter_cons_of_pos (hF r h2)], h2, fun q hq => h3 q (List.mem_filter.1 hq).1⟩
theorem repL_w (s : Sea) (p : List Int) (he : seaE s = 0) (hpl : p.length ≤ s.gs.length) :
    Fn0 Try.prog 50 [seA s, .slc 1 (iR p) .non] (fun v => v = .int .i64 (rpS s p)) := by
  have ok := okS_of he
  rw [← repT_rp he hpl]
  exact repeatsL_c s p _ (.inr rfl) hpl (by have := ok.g9; omega) (fun l hl => by have := ok.g12 l hl; omega)
end Go.Abs
