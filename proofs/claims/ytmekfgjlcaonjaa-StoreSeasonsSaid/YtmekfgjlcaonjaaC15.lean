/- A part of the proofs of the laws of this seat: contracts of the functions that they reach, each proved of the program's form in Lean. No condition beyond those that each contract names. -/
import Derived.Test.YtmekfgjlcaonjaaC14
import Derived.Test.YtmekfgjlcaonjaaC13
import Derived.Test.YtmekfgjlcaonjaaC12
import Derived.Test.YtmekfgjlcaonjaaC11
import Derived.Test.YtmekfgjlcaonjaaC10
import Derived.Test.YtmekfgjlcaonjaaC9
import Derived.Test.YtmekfgjlcaonjaaC8
import Derived.Test.YtmekfgjlcaonjaaC7
import Derived.Test.YtmekfgjlcaonjaaC5
import Derived.Test.YtmekfgjlcaonjaaC4
import Derived.Test.YtmekfgjlcaonjaaC2
import Derived.Test.YtmekfgjlcaonjaaC1
import Derived.Test.YtmekfgjlcaonjaaB0
import Derived.Test.YtmekfgjlcaonjaaB9
import Derived.Test.YtmekfgjlcaonjaaB4
import Derived.Test.YtmekfgjlcaonjaaB11
import Derived.Test.YtmekfgjlcaonjaaB20
import Derived.Test.YtmekfgjlcaonjaaB25
import Derived.Test.YtmekfgjlcaonjaaB29
set_option linter.unusedVariables false
set_option linter.unusedSimpArgs false
set_option maxRecDepth 20000
set_option maxHeartbeats 4000000
/-! ### Combinations, one by one -/
namespace Go.Abs
open Go.Proofs
/-- aloeswood/store.Combination -/
def ir59 : IFn :=
  ⟨49, [(4, none), (5, none)], (.seq (.ops [⟨(some 2), none, (.box 2 (.t 0))⟩,
    ⟨(some 4), none, (.mov (.k .nsl))⟩,
    ⟨(some 5), none, (.mov (.k (.int .i64 0)))⟩])
  (.seq (.seq (.ops [⟨(some 9), none, (.ld 2 true (.t 2))⟩,
    ⟨(some 10), none, (.callF 62 [(.t 9)])⟩,
    ⟨(some 6), none, (.mov (.t 10))⟩])
  (.seq (.ops [⟨(some 11), none, (.mov (.t 6))⟩,
    ⟨(some 12), none, (.bin .neq (.t 11) (.k (.int .i64 0)))⟩])
  (.cnd (.t 12)
    (.seq (.ops [⟨(some 13), none, (.mov (.t 6))⟩,
      ⟨(some 4), none, (.mov (.k .nsl))⟩,
      ⟨(some 5), none, (.mov (.t 13))⟩])
    .ret)
    .skip)))
  (.seq (.seq (.ops [⟨(some 14), none, (.mov (.t 1))⟩,
    ⟨(some 15), none, (.ld 2 true (.t 2))⟩,
    ⟨(some 16), none, (.callF 98 [(.t 15)])⟩,
    ⟨(some 17), none, (.bin .sub (.t 16) (.k (.int .i64 1)))⟩,
    ⟨(some 18), none, (.callF 97 [(.t 14), (.k (.int .i64 0)), (.t 17)])⟩,
    ⟨(some 19), none, (.not (.t 18))⟩])
  (.cnd (.t 19)
    (.seq (.ops [⟨(some 4), none, (.mov (.k .nsl))⟩,
      ⟨(some 5), none, (.mov (.k (.int .i64 7)))⟩])
    .ret)
    .skip))
  (.seq (.ops [⟨(some 20), none, (.flA 0 (.t 2))⟩,
    ⟨(some 21), none, (.ld 1 false (.t 20))⟩,
    ⟨(some 22), none, (.len false (.t 21))⟩,
    ⟨(some 23), none, (.mks 1 8 [(.int .i64 0)] (.t 22) (.t 22))⟩,
    ⟨(some 7), none, (.mov (.t 23))⟩])
  (.seq (.seq (.ops [⟨(some 24), none, (.mov (.t 7))⟩,
    ⟨(some 25), none, (.len false (.t 24))⟩,
    ⟨(some 26), none, (.bin .sub (.t 25) (.k (.int .i64 1)))⟩,
    ⟨(some 8), none, (.mov (.t 26))⟩])
  (.blk 0 (.loop (.seq (.seq (.ops [⟨(some 27), none, (.mov (.t 8))⟩,
        ⟨(some 28), none, (.bin .geq (.t 27) (.k (.int .i64 0)))⟩])
      (.cnd (.t 28)
        .skip
        (.exit 0)))
      (.seq (.blk 1 (.ops [⟨(some 31), none, (.mov (.t 7))⟩,
          ⟨(some 32), none, (.mov (.t 8))⟩,
          ⟨(some 33), none, (.mov (.t 1))⟩,
          ⟨(some 34), none, (.flA 0 (.t 2))⟩,
          ⟨(some 35), none, (.ld 1 false (.t 34))⟩,
          ⟨(some 36), none, (.mov (.t 8))⟩,
          ⟨(some 37), none, (.ixA 1 (.t 35) (.t 36))⟩,
          ⟨(some 38), none, (.ld 1 false (.t 37))⟩,
          ⟨(some 39), none, (.bin .rem (.t 33) (.t 38))⟩,
          ⟨(some 40), none, (.mov (.t 1))⟩,
          ⟨(some 41), none, (.flA 0 (.t 2))⟩,
          ⟨(some 42), none, (.ld 1 false (.t 41))⟩,
          ⟨(some 43), none, (.mov (.t 8))⟩,
          ⟨(some 44), none, (.ixA 1 (.t 42) (.t 43))⟩,
          ⟨(some 45), none, (.ld 1 false (.t 44))⟩,
          ⟨(some 46), none, (.bin .quo (.t 40) (.t 45))⟩,
          ⟨(some 47), none, (.ixA 1 (.t 31) (.t 32))⟩,
          ⟨none, none, (.st 1 (.t 47) (.t 39))⟩,
          ⟨(some 1), none, (.mov (.t 46))⟩]))
      (.ops [⟨(some 29), none, (.mov (.t 8))⟩,
        ⟨(some 30), none, (.bin .sub (.t 29) (.k (.int .i64 1)))⟩,
        ⟨(some 8), none, (.mov (.t 30))⟩]))))))
  (.seq (.seq (.frz (.t 7))
  (.ops [⟨(some 48), none, (.mov (.t 7))⟩,
    ⟨(some 4), none, (.mov (.t 48))⟩,
    ⟨(some 5), none, (.mov (.k (.int .i64 0)))⟩]))
  .ret))))))⟩
def hint59 (P : Program) : Hint := { site := [], nils := [], frz := [(48, 7)], mve := [], wr := [] }

/-- The digits of a number, the last one first, and what is left. -/
def comR : List Int → Int → List Int × Int
  | [], n => ([], n)
  | a :: r, n => ((comR r n).2.tmod a :: (comR r n).1, (comR r n).2.tdiv a)
theorem comR_len : ∀ (l : List Int) (n : Int), (comR l n).1.length = l.length
  | [], _ => rfl
  | _ :: r, n => by simp [comR, comR_len r n]
theorem tdiv_bd {m a : Int} (h : 0 ≤ m) (ha : 1 ≤ a) : 0 ≤ m.tdiv a ∧ m.tdiv a ≤ m := by
  rw [Int.tdiv_eq_ediv_of_nonneg h]
  exact ⟨Int.ediv_nonneg h (by omega), Int.ediv_le_self _ h⟩
theorem tmod_bd {m a : Int} (h : 0 ≤ m) (ha : 1 ≤ a) : 0 ≤ m.tmod a ∧ m.tmod a < a := ⟨Int.tmod_nonneg _ h, Int.tmod_lt_of_pos _ (by omega)⟩
theorem comR_bd : ∀ (l : List Int) (n : Int), (∀ x ∈ l, 1 ≤ x ∧ x ≤ 6) → 0 ≤ n → 0 ≤ (comR l n).2 ∧ (comR l n).2 ≤ n
  | [], n, _, h => ⟨h, Int.le_refl _⟩
  | a :: r, n, hx, h => by
    have ih := comR_bd r n (fun x hh => hx x (by simp [hh])) h
    have := tdiv_bd ih.1 (hx a (by simp)).1
    simp only [comR]; omega
def comE (s : Sea) (n : Int) : Int := if seaE s = 0 then (if inB n 0 (combF s.ss - 1) = true then 0 else 7) else seaE s
theorem Combination_s (s : Sea) (n : Int) (h1 : s.ss.length < 1000) (h2 : s.gs.length < 1000) (h3 : ∀ l ∈ s.gs, l.length < 1000) :
    Fn0 Try.prog 59 [seA s, .int .i64 n] (fun v => v = if comE s n = 0 then .tup [.slc 1 (iR (comR s.ss n).1) .non, .int .i64 0] else .tup [.nsl, .int .i64 (comE s n)]) := by
  have hck := checkS_s s h1 h2 h3
  obtain ⟨E, hE⟩ : ∃ E, E = comE s n := ⟨_, rfl⟩
  rw [← hE]
  rw [comE] at hE
  by_cases he : seaE s = 0
  case neg =>
    rw [if_neg he] at hE
    rw [if_neg (by rw [hE]; exact he), hE]
    refine RawC.walk (H := hint59 Try.prog) ir59 Try.func59 rfl rfl rfl ?_
    unfold ir59
    repeat' (first
      | with_reducible (first | refine Rd.p ?_ | refine w_alt ?_ ?_ | refine zE ?_ | refine zE0 ?_)
      | with_reducible (first | refine zI fun y hy => ?_ | refine zL ?_ | refine zS ?_ | refine zA fun _ => ?_ | refine zV ?_ | refine zC ?_ | refine zG ?_ | refine zU ?_ | refine zG0 ?_ | refine zU0 ?_ | refine zF ?_)
      | ((with_reducible refine acall_id ?_); refine ACall.val hck rfl rfl ?_)
      | with_reducible (first | refine zX ?_ | refine zD fun _ => ?_ | refine zD0 ?_ | refine zN ?_ | refine zF0 ?_ | refine zX0 ?_ | refine z1 ?_ | refine z2 ?_ | refine z3 ?_ | refine z4 ?_ | refine z5 ?_ | refine z6 ?_ | refine z7 ?_ | refine z8 ?_ | refine y1 ?_ | refine y2 ?_ | refine y3 ?_ | refine y4 ?_ | refine y5 ?_ | refine y6 ?_ | refine y7 ?_ | refine y8 ?_ | refine Rt.p (fun _ => ?_) fun _ => ?_)
      | ((with_reducible apply w_ixM); (focus exact rfl); (focus exact rfl); case' hk => intro y hy) | ((with_reducible (first | apply w_val | apply q_ends)); (focus exact rfl)))
    rfl
  rw [if_pos he] at hE
  have ok := okS_of he
  have h4 := ok.s4
  have hcb := combF_bd s.ss.length s.ss rfl ok.s6
  have hcb2 : combF s.ss ≤ 1296 := by
    have : (6 : Int) ^ s.ss.length ≤ 1296 := by
      rcases (by omega : s.ss.length = 0 ∨ s.ss.length = 1 ∨ s.ss.length = 2 ∨ s.ss.length = 3 ∨ s.ss.length = 4) with h | h | h | h | h
      all_goals (rw [h]; decide)
    omega
  rw [he] at hck
  by_cases hi : inB n 0 (combF s.ss - 1) = true
  case neg =>
    rw [if_neg hi] at hE
    rw [if_neg (by rw [hE]; decide), hE]
    refine RawC.walk (H := hint59 Try.prog) ir59 Try.func59 rfl rfl rfl ?_
    unfold ir59
    repeat' (first
      | with_reducible (first | refine Rd.p ?_ | refine w_alt ?_ ?_ | refine zE ?_ | refine zE0 ?_)
      | with_reducible (first | refine zI fun y hy => ?_ | refine zL ?_ | refine zS ?_ | refine zA fun _ => ?_ | refine zV ?_ | refine zC ?_ | refine zG ?_ | refine zU ?_ | refine zG0 ?_ | refine zU0 ?_ | refine zF ?_)
      | ((with_reducible refine acall_id ?_); refine ACall.val hck rfl rfl ?_)
      | ((with_reducible refine acall_id ?_); refine ACall.val (comb_s s ok.s4 ok.s6) rfl rfl ?_)
      | ((with_reducible refine acall_id ?_); refine ACall.val (within_s _ _ _) rfl rfl ?_)
      | with_reducible (first | refine zX ?_ | refine zD fun _ => ?_ | refine zD0 ?_ | refine zN ?_ | refine zF0 ?_ | refine zX0 ?_ | refine z1 ?_ | refine z2 ?_ | refine z3 ?_ | refine z4 ?_ | refine z5 ?_ | refine z6 ?_ | refine z7 ?_ | refine z8 ?_ | refine y1 ?_ | refine y2 ?_ | refine y3 ?_ | refine y4 ?_ | refine y5 ?_ | refine y6 ?_ | refine y7 ?_ | refine y8 ?_ | refine Rt.p (fun _ => ?_) fun _ => ?_)
      | ((with_reducible apply w_ixM); (focus exact rfl); (focus exact rfl); case' hk => intro y hy) | ((with_reducible (first | apply w_val | apply q_ends)); (focus exact rfl)))
    all_goals first | exact absurd ‹inB n 0 (combF s.ss - 1) = true› hi | rfl
  rw [if_pos hi] at hE
  rw [if_pos hE]
  have hn := inB_t.1 hi
  refine RawC.walk (H := hint59 Try.prog) ir59 Try.func59 rfl rfl rfl ?_
  unfold ir59
  repeat' (first
    | with_reducible (first | refine Rd.p ?_ | refine w_alt ?_ ?_ | refine zE ?_ | refine zE0 ?_)
    | (refine w_mksI (n := s.ss.length) rfl (by omega) ?_; intro _)
    | with_reducible (first | refine zI fun y hy => ?_ | refine zL ?_ | refine zS ?_ | refine zA fun _ => ?_ | refine zV ?_ | refine zC ?_ | refine zG ?_ | refine zU ?_ | refine zG0 ?_ | refine zU0 ?_ | refine zF ?_)
    | ((with_reducible refine acall_id ?_); refine ACall.val hck rfl rfl ?_)
    | ((with_reducible refine acall_id ?_); refine ACall.val (comb_s s ok.s4 ok.s6) rfl rfl ?_)
    | ((with_reducible refine acall_id ?_); refine ACall.val (within_s _ _ _) rfl rfl ?_)
    | with_reducible (first | refine zX ?_ | refine zD fun _ => ?_ | refine zD0 ?_ | refine zN ?_ | refine zF0 ?_ | refine zX0 ?_ | refine z1 ?_ | refine z2 ?_ | refine z3 ?_ | refine z4 ?_ | refine z5 ?_ | refine z6 ?_ | refine z7 ?_ | refine z8 ?_ | refine y1 ?_ | refine y2 ?_ | refine y3 ?_ | refine y4 ?_ | refine y5 ?_ | refine y6 ?_ | refine y7 ?_ | refine y8 ?_ | refine Rt.p (fun _ => ?_) fun _ => ?_)
    | ((with_reducible apply w_ixM); (focus exact rfl); (focus exact rfl); case' hk => intro y hy) | ((with_reducible (first | apply w_val | apply q_ends)); (focus exact rfl)))
  rename_i g2 g7
  refine w_loopK [2, 7] [2] (fun x : List Int × List Int => s.ss = x.1 ++ x.2) (fun x => x.1.length) (fun x => [(8, .int .i64 ((x.1.length : Int) - 1)), (1, .int .i64 (comR x.2 n).2)]) (fun x => [(23, (g7, .row ((List.replicate x.1.length 0 ++ (comR x.2 n).1).map (AV.int .i64))))]) (s.ss, []) (by simp) ⟨rfl, rfl, trivial⟩ (by exact ⟨by simp [comR]; rfl, trivial⟩) ?_
  rintro ⟨p, q⟩ hpq e σ
  dsimp only at hpq ⊢
  have hlen := congrArg List.length hpq
  rw [List.length_append] at hlen
  have hL := comR_len q n
  have hbq := comR_bd q n (fun x hx => ok.s6 x (by rw [hpq]; simp [hx])) hn.1
  rcases List.eq_nil_or_concat p with rfl | ⟨p', a, rfl⟩
  · rw [List.nil_append] at hpq
    subst hpq
    simp only [List.length_nil] at hlen
    have h0 : ([] : List Int).length = 0 := rfl
    repeat' (first
      | with_reducible (first | refine Rd.p ?_ | refine w_alt ?_ ?_ | refine zE ?_ | refine zE0 ?_)
      | with_reducible (first | refine zI fun y hy => ?_ | refine zL ?_ | refine zS ?_ | refine zA fun _ => ?_ | refine zV ?_ | refine zC ?_ | refine zG ?_ | refine zU ?_ | refine zG0 ?_ | refine zU0 ?_ | refine zF ?_)
      | (refine w_frzI rfl rfl (by simp [hL]) ?_)
      | with_reducible (first | refine zX ?_ | refine zD fun _ => ?_ | refine zD0 ?_ | refine zN ?_ | refine zF0 ?_ | refine zX0 ?_ | refine z1 ?_ | refine z2 ?_ | refine z3 ?_ | refine z4 ?_ | refine z5 ?_ | refine z6 ?_ | refine z7 ?_ | refine z8 ?_ | refine y1 ?_ | refine y2 ?_ | refine y3 ?_ | refine y4 ?_ | refine y5 ?_ | refine y6 ?_ | refine y7 ?_ | refine y8 ?_ | refine Rt.p (fun _ => ?_) fun _ => ?_)
      | ((with_reducible apply w_ixM); (focus exact rfl); (focus exact rfl); case' hk => intro y hy) | ((with_reducible (first | apply w_val | apply q_ends)); (focus exact rfl)))
    rfl
  · rw [List.concat_eq_append] at *
    have hpl : (p' ++ [a]).length = p'.length + 1 := by simp
    rw [hpl] at hlen
    have ha := ok.s6 a (by rw [hpq]; simp)
    have hd := tdiv_bd hbq.1 ha.1
    have hm := tmod_bd hbq.1 ha.1
    repeat' (first
      | with_reducible (first | refine Rd.p ?_ | refine w_alt ?_ ?_ | refine zE ?_ | refine zE0 ?_)
      | (first | refine w_ixP (pre := p') (post := q) (y := a) (by rw [hpq]; simp) rfl (by show AV.int .i64 _ = _; rw [hpl]; refine int_eq ?_; omega) ?_ | refine w_stI rfl rfl rfl (by simp [hL]; omega) ?_)
      | with_reducible (first | refine zI fun y hy => ?_ | refine zL ?_ | refine zS ?_ | refine zA fun _ => ?_ | refine zV ?_ | refine zC ?_ | refine zG ?_ | refine zU ?_ | refine zG0 ?_ | refine zU0 ?_ | refine zF ?_)
      | with_reducible (first | refine zX ?_ | refine zD fun _ => ?_ | refine zD0 ?_ | refine zN ?_ | refine zF0 ?_ | refine zX0 ?_ | refine z1 ?_ | refine z2 ?_ | refine z3 ?_ | refine z4 ?_ | refine z5 ?_ | refine z6 ?_ | refine z7 ?_ | refine z8 ?_ | refine y1 ?_ | refine y2 ?_ | refine y3 ?_ | refine y4 ?_ | refine y5 ?_ | refine y6 ?_ | refine y7 ?_ | refine y8 ?_ | refine Rt.p (fun _ => ?_) fun _ => ?_)
      | ((with_reducible apply w_ixM); (focus exact rfl); (focus exact rfl); case' hk => intro y hy) | ((with_reducible (first | apply w_val | apply q_ends)); (focus exact rfl)))
    refine q_loop (p', a :: q) ?_ ?_ ?_ ?_ (by repeat' (first | exact kept_nil | apply kept_cons | rfl)) (by repeat' (first | exact kept_nil | apply kept_cons | rfl))
    · dsimp only; rw [hpq]; simp
    · simp
    · refine slots_cons ?_ (slots_cons ?_ slots_nil)
      · show AV.int .i64 _ = AV.int .i64 _
        refine int_eq ?_; dsimp only; rw [hpl]; omega
      · rfl
    · refine slots_cons ?_ slots_nil
      show (_, Res.row _) = _
      dsimp only
      rw [hpl]
      refine congrArg (fun z => (g7, Res.row (List.map (AV.int .i64) z))) ?_
      have e1 : (((p'.length + 1 : Nat) : Int) - 1).toNat * 1 = p'.length := by omega
      rw [e1, List.replicate_succ', List.append_assoc, List.set_append_right _ _ (by simp)]
      simp [comR]
end Go.Abs
