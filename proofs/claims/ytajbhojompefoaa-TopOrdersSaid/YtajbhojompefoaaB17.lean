/- A part of the proofs of the laws of this seat: contracts of the functions that they reach, each proved of the program's form in Lean. No condition beyond those that each contract names. -/
import Derived.Test.YtajbhojompefoaaB8
import Derived.Test.YtajbhojompefoaaB0
import Derived.Test.YtajbhojompefoaaB16
import Derived.Test.YtajbhojompefoaaB11
import Derived.Test.YtajbhojompefoaaB1
import Derived.Test.YtajbhojompefoaaB12
set_option linter.unusedVariables false
set_option linter.unusedSimpArgs false
set_option maxRecDepth 20000
set_option maxHeartbeats 4000000
/-! ### Parties made of numbers; copies; Count -/
namespace Go.Abs
open Go.Proofs
/-- aloeswood/seat.Count -/
def ir16 : IFn :=
  ⟨18, [(2, none), (3, none)], (.seq (.ops [⟨(some 1), none, (.box 2 (.t 0))⟩,
    ⟨(some 2), none, (.mov (.k (.int .i64 0)))⟩,
    ⟨(some 3), none, (.mov (.k (.int .i64 0)))⟩])
  (.seq (.seq (.ops [⟨(some 6), none, (.ld 2 true (.t 1))⟩,
    ⟨(some 7), none, (.callF 18 [(.t 6)])⟩,
    ⟨(some 4), none, (.mov (.t 7))⟩])
  (.seq (.ops [⟨(some 8), none, (.mov (.t 4))⟩,
    ⟨(some 9), none, (.bin .neq (.t 8) (.k (.int .i64 0)))⟩])
  (.cnd (.t 9)
    (.seq (.ops [⟨(some 10), none, (.mov (.t 4))⟩,
      ⟨(some 2), none, (.mov (.k (.int .i64 0)))⟩,
      ⟨(some 3), none, (.mov (.t 10))⟩])
    .ret)
    .skip)))
  (.seq (.ops [⟨(some 5), none, (.new [(.int .i64 0)])⟩,
    ⟨none, none, (.st 1 (.t 5) (.k (.int .i64 0)))⟩])
  (.seq (.seq (.ops [⟨(some 11), none, (.ld 2 true (.t 1))⟩,
    ⟨(some 12), none, (.callF 25 [(.t 11)])⟩])
  (.blk 0 (.rf (.t 12) [13, 14] .skip
      (.blk 1 (.ops [⟨(some 15), none, (.ld 1 false (.t 5))⟩,
          ⟨(some 16), none, (.bin .add (.t 15) (.k (.int .i64 1)))⟩,
          ⟨none, none, (.st 1 (.t 5) (.t 16))⟩])))))
  (.seq (.ops [⟨(some 17), none, (.ld 1 false (.t 5))⟩,
    ⟨(some 2), none, (.mov (.t 17))⟩,
    ⟨(some 3), none, (.mov (.k (.int .i64 0)))⟩])
  .ret)))))⟩
def hint16 (P : Program) : Hint := {}

theorem rErr_mk {k a b w n : Int} (hk : 1 ≤ k ∧ k ≤ 6) (ha : nmV k ≠ 0 → 0 ≤ a ∧ a < n) (ha0 : nmV k = 0 → a = 0) (hb : nmV k = 2 → 0 ≤ b ∧ b < n ∧ a ≠ b) (hb0 : nmV k ≠ 2 → b = 0) (hw : 0 ≤ w ∧ w ≤ 1000) : rErr ⟨k, a, b, w⟩ n = 0 := by
  have hn := nmV_bd k
  have e0 : argE 0 a (nmV k) n = 0 := by
    unfold argE
    split
    · rename_i h
      have := ha (by omega)
      rw [if_pos (inB_t.2 (by omega))]
    · rename_i h
      rw [if_pos (ha0 (by omega))]
  have e1 : argE 1 b (nmV k) n = 0 := by
    unfold argE
    split
    · rename_i h
      have := hb (by omega)
      rw [if_pos (inB_t.2 (by omega))]
    · rename_i h
      rw [if_pos (hb0 (by omega))]
  unfold rErr
  dsimp only
  rw [if_pos (inB_t.2 hk), if_pos e0, if_pos e1, if_neg, if_pos (inB_t.2 hw)]
  rintro ⟨h1, h2⟩
  exact (hb h1).2.2 h2
theorem next_mod {a k n : Int} (ha : 0 ≤ a ∧ a < n) (hk : 1 ≤ k ∧ k ≤ n - 1) : 0 ≤ (a + k).tmod n ∧ (a + k).tmod n < n ∧ a ≠ (a + k).tmod n := by
  rw [Int.tmod_eq_emod_of_nonneg (by omega)]
  by_cases h : a + k < n
  · rw [Int.emod_eq_of_lt (by omega) h]; omega
  · have : (a + k) % n = a + k - n := by
      have e : (a + k) % n = (a + k - n) % n := by rw [← Int.add_emod_right (a := a + k - n)]; congr 1; omega
      rw [e, Int.emod_eq_of_lt (by omega) (by omega)]
    rw [this]; omega
theorem kind1 {k : Int} (h : k ∈ [4, 5, 6]) : 4 ≤ k ∧ k ≤ 6 ∧ 0 ≤ nmV k ∧ nmV k ≤ 1 := by
  simp at h; unfold nmV; rcases h with rfl | rfl | rfl <;> simp
theorem Count_c (gs : List Guest) (rs : List Rule) (hl0 : gs.length < 1000) (hr0 : rs.length < 1000) (hs : ∀ g ∈ gs, g.name.size ≤ 1000) :
    Fn0 Try.prog 16 [pA gs rs] (fun v => v = .tup [.int .i64 (if pErr gs rs = 0 then ((okL gs rs).length : Int) else 0), .int .i64 (pErr gs rs)]) := by
  by_cases h0 : pErr gs rs = 0
  case neg =>
    rw [if_neg h0]
    refine RawC.walk (H := hint16 Try.prog) ir16 Try.func16 rfl rfl rfl ?_
    unfold ir16
    repeat' (first
      | with_reducible (first | refine Rd.p ?_ | refine zE ?_ | refine zE0 ?_)
      | with_reducible (first | refine zI fun y hy => ?_ | refine zL ?_ | refine zS ?_ | refine zA fun _ => ?_ | refine zV ?_ | refine zC ?_ | refine zG ?_ | refine zU ?_ | refine zG0 ?_ | refine zU0 ?_ | refine zF ?_)
      | ((with_reducible refine acall_id ?_); refine ACall.val (Check_c gs rs hl0 hr0 hs) rfl rfl ?_)
      | with_reducible (first | refine zX ?_ | refine zD fun _ => ?_ | refine zD0 ?_ | refine zN ?_ | refine zF0 ?_ | refine zX0 ?_ | refine z1 ?_ | refine z2 ?_ | refine z3 ?_ | refine z4 ?_ | refine z5 ?_ | refine z6 ?_ | refine z7 ?_ | refine z8 ?_ | refine y1 ?_ | refine y2 ?_ | refine y3 ?_ | refine y4 ?_ | refine y5 ?_ | refine y6 ?_ | refine y7 ?_ | refine y8 ?_ | refine Rt.p (fun _ => ?_) fun _ => ?_)
      | ((with_reducible apply w_ixM); (focus exact rfl); (focus exact rfl); case' hk => intro y hy) | ((with_reducible (first | apply w_val | apply q_ends)); (focus exact rfl)))
    rfl
  have hp := pOK_of h0
  have h7 := hp.g7
  have hlen : (allowF gs rs (perms gs.length)).length = (okL gs rs).length := by rw [allowF_eq, List.length_map]
  have hbd := okL_len gs rs hp.g7
  rw [if_pos h0, h0]
  have hck := Check_c gs rs hl0 hr0 hs
  rw [h0] at hck
  refine RawC.walk (H := hint16 Try.prog) ir16 Try.func16 rfl rfl rfl ?_
  unfold ir16
  repeat' (first
    | with_reducible (first | refine Rd.p ?_ | refine zE ?_ | refine zE0 ?_)
    | with_reducible (first | refine zI fun y hy => ?_ | refine zL ?_ | refine zS ?_ | refine zA fun _ => ?_ | refine zV ?_ | refine zC ?_ | refine zG ?_ | refine zU ?_ | refine zG0 ?_ | refine zU0 ?_ | refine zF ?_)
    | ((with_reducible refine acall_id ?_); refine ACall.val hck rfl rfl ?_)
    | ((with_reducible refine acall_id ?_); refine ACall.val (allowed_c gs rs) rfl rfl ?_)
    | with_reducible (first | refine zX ?_ | refine zD fun _ => ?_ | refine zD0 ?_ | refine zN ?_ | refine zF0 ?_ | refine zX0 ?_ | refine z1 ?_ | refine z2 ?_ | refine z3 ?_ | refine z4 ?_ | refine z5 ?_ | refine z6 ?_ | refine z7 ?_ | refine z8 ?_ | refine y1 ?_ | refine y2 ?_ | refine y3 ?_ | refine y4 ?_ | refine y5 ?_ | refine y6 ?_ | refine y7 ?_ | refine y8 ?_ | refine Rt.p (fun _ => ?_) fun _ => ?_)
    | ((with_reducible apply w_ixM); (focus exact rfl); (focus exact rfl); case' hk => intro y hy) | ((with_reducible (first | apply w_val | apply q_ends)); (focus exact rfl)))
  rename_i g1 g2
  refine w_rfM enc2 (allowF gs rs (perms gs.length)) rfl (allowed_it gs rs (by omega) hp.g1 hp.r hp.r12) (fun _ => rfl) [1] (fun (rest : List (List Int × Nat)) (y : Nat) => y + rest.length = (okL gs rs).length) (fun y => [(5, (g2, .row [.int .i64 y]))]) 0 ?_ ⟨rfl, trivial⟩ ?_ ?_
  · omega
  · rintro x rest y hy σ'
    simp only [List.length_cons] at hy
    repeat' (first
      | with_reducible (first | refine Rd.p ?_ | refine zE ?_ | refine zE0 ?_)
      | with_reducible (first | refine zI fun y hy => ?_ | refine zL ?_ | refine zS ?_ | refine zA fun _ => ?_ | refine zV ?_ | refine zC ?_ | refine zG ?_ | refine zU ?_ | refine zG0 ?_ | refine zU0 ?_ | refine zF ?_)
      | with_reducible (first | refine zX ?_ | refine zD fun _ => ?_ | refine zD0 ?_ | refine zN ?_ | refine zF0 ?_ | refine zX0 ?_ | refine z1 ?_ | refine z2 ?_ | refine z3 ?_ | refine z4 ?_ | refine z5 ?_ | refine z6 ?_ | refine z7 ?_ | refine z8 ?_ | refine y1 ?_ | refine y2 ?_ | refine y3 ?_ | refine y4 ?_ | refine y5 ?_ | refine y6 ?_ | refine y7 ?_ | refine y8 ?_ | refine Rt.p (fun _ => ?_) fun _ => ?_)
      | ((with_reducible apply w_ixM); (focus exact rfl); (focus exact rfl); case' hk => intro y hy) | ((with_reducible (first | apply w_val | apply q_ends)); (focus exact rfl)))
    exact q_rnd (y + 1) (by omega) (by repeat' (first | exact slots_nil | apply slots_cons | rfl | (rw [map_snoc]; rfl) | (rw [len_snoc]; rfl) | (rw [hS]; rfl) | (rw [hS, map_snoc]; rfl) | (refine int_eq ?_; (try dsimp only); omega) | (refine congrArg AV.bool ?_; simp_all; done))) (by repeat' (first | exact kept_nil | apply kept_cons | rfl))
  · rintro y hy σ'
    simp only [List.length_nil] at hy
    repeat' (first
      | with_reducible (first | refine Rd.p ?_ | refine zE ?_ | refine zE0 ?_)
      | with_reducible (first | refine zI fun y hy => ?_ | refine zL ?_ | refine zS ?_ | refine zA fun _ => ?_ | refine zV ?_ | refine zC ?_ | refine zG ?_ | refine zU ?_ | refine zG0 ?_ | refine zU0 ?_ | refine zF ?_)
      | with_reducible (first | refine zX ?_ | refine zD fun _ => ?_ | refine zD0 ?_ | refine zN ?_ | refine zF0 ?_ | refine zX0 ?_ | refine z1 ?_ | refine z2 ?_ | refine z3 ?_ | refine z4 ?_ | refine z5 ?_ | refine z6 ?_ | refine z7 ?_ | refine z8 ?_ | refine y1 ?_ | refine y2 ?_ | refine y3 ?_ | refine y4 ?_ | refine y5 ?_ | refine y6 ?_ | refine y7 ?_ | refine y8 ?_ | refine Rt.p (fun _ => ?_) fun _ => ?_)
      | ((with_reducible apply w_ixM); (focus exact rfl); (focus exact rfl); case' hk => intro y hy) | ((with_reducible (first | apply w_val | apply q_ends)); (focus exact rfl)))
    rw [show y = (okL gs rs).length by omega]; rfl
end Go.Abs
