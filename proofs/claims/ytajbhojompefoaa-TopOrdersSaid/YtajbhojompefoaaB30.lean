/- A part of the proofs of the laws of this seat: contracts of the functions that they reach, each proved of the program's form in Lean. No condition beyond those that each contract names. -/
import Derived.Test.YtajbhojompefoaaB9
import Derived.Test.YtajbhojompefoaaB0
import Derived.Test.YtajbhojompefoaaB8
import Derived.Test.YtajbhojompefoaaB16
import Derived.Test.YtajbhojompefoaaB22
import Derived.Test.YtajbhojompefoaaB11
import Derived.Test.YtajbhojompefoaaB20
import Derived.Test.YtajbhojompefoaaB12
import Derived.Test.YtajbhojompefoaaB5
import Derived.Test.YtajbhojompefoaaB29
import Derived.Test.YtajbhojompefoaaB21
import Derived.Test.YtajbhojompefoaaB10
import Derived.Test.YtajbhojompefoaaB2
set_option linter.unusedVariables false
set_option linter.unusedSimpArgs false
set_option maxRecDepth 20000
set_option maxHeartbeats 4000000
/-! ### Price, both sides -/
namespace Go.Abs
open Go.Proofs
/-- aloeswood/seat.Price -/
def ir15 : IFn :=
  ⟨52, [(4, none), (5, none), (6, none)], (.seq (.ops [⟨(some 2), none, (.box 2 (.t 0))⟩,
    ⟨(some 4), none, (.mov (.k .nsl))⟩,
    ⟨(some 5), none, (.mov (.k (.int .i64 0)))⟩,
    ⟨(some 6), none, (.mov (.k (.int .i64 0)))⟩])
  (.seq (.seq (.ops [⟨(some 11), none, (.ld 2 true (.t 2))⟩,
    ⟨(some 12), none, (.callF 18 [(.t 11)])⟩,
    ⟨(some 7), none, (.mov (.t 12))⟩])
  (.seq (.ops [⟨(some 13), none, (.mov (.t 7))⟩,
    ⟨(some 14), none, (.bin .neq (.t 13) (.k (.int .i64 0)))⟩])
  (.cnd (.t 14)
    (.seq (.ops [⟨(some 15), none, (.mov (.t 7))⟩,
      ⟨(some 4), none, (.mov (.k .nsl))⟩,
      ⟨(some 5), none, (.mov (.k (.int .i64 0)))⟩,
      ⟨(some 6), none, (.mov (.t 15))⟩])
    .ret)
    .skip)))
  (.seq (.seq (.ops [⟨(some 16), none, (.mov (.t 1))⟩,
    ⟨(some 17), none, (.len false (.t 16))⟩,
    ⟨(some 18), none, (.flA 0 (.t 2))⟩,
    ⟨(some 19), none, (.ld 1 false (.t 18))⟩,
    ⟨(some 20), none, (.len false (.t 19))⟩,
    ⟨(some 21), none, (.bin .neq (.t 17) (.t 20))⟩])
  (.cnd (.t 21)
    (.seq (.ops [⟨(some 4), none, (.mov (.k .nsl))⟩,
      ⟨(some 5), none, (.mov (.k (.int .i64 0)))⟩,
      ⟨(some 6), none, (.mov (.k (.int .i64 3)))⟩])
    .ret)
    .skip))
  (.seq (.seq (.ops [⟨(some 22), none, (.mov (.t 1))⟩,
    ⟨(some 23), none, (.len false (.t 22))⟩,
    ⟨(some 24), none, (.mov (.k (.int .i64 0)))⟩])
  (.blk 0 (.loop (.seq (.ops [⟨(some 25), none, (.bin .lss (.t 24) (.t 23))⟩])
      (.seq (.cnd (.t 25)
        .skip
        (.exit 0))
      (.seq (.blk 1 (.seq (.ops [⟨(some 26), none, (.mov (.t 24))⟩,
          ⟨(some 27), none, (.ixA 1 (.t 22) (.t 24))⟩,
          ⟨(some 28), none, (.ld 1 false (.t 27))⟩,
          ⟨(some 8), none, (.mov (.t 26))⟩,
          ⟨(some 9), none, (.mov (.t 28))⟩])
        (.seq (.ops [⟨(some 29), none, (.mov (.t 9))⟩,
          ⟨(some 30), none, (.mov (.t 1))⟩,
          ⟨(some 31), none, (.len false (.t 30))⟩,
          ⟨(some 32), none, (.bin .sub (.t 31) (.k (.int .i64 1)))⟩,
          ⟨(some 33), none, (.callF 19 [(.t 29), (.k (.int .i64 0)), (.t 32)])⟩,
          ⟨(some 34), none, (.not (.t 33))⟩,
          ⟨(some 35), none, (.mov (.t 34))⟩,
          ⟨(some 36), (some (35, false)), (.mov (.t 1))⟩,
          ⟨(some 37), (some (35, false)), (.mov (.t 8))⟩,
          ⟨(some 38), (some (35, false)), (.slS 1 (.t 36) none (some (.t 37)) none)⟩,
          ⟨(some 39), (some (35, false)), (.mov (.t 9))⟩,
          ⟨(some 40), (some (35, false)), (.callF 20 [(.t 38), (.t 39)])⟩,
          ⟨(some 41), none, (.pick (.t 35) (.k (.bool true)) (.t 40))⟩])
        (.cnd (.t 41)
          (.seq (.ops [⟨(some 4), none, (.mov (.k .nsl))⟩,
            ⟨(some 5), none, (.mov (.k (.int .i64 0)))⟩,
            ⟨(some 6), none, (.mov (.k (.int .i64 3)))⟩])
          .ret)
          .skip))))
      (.ops [⟨(some 42), none, (.bin .add (.t 24) (.k (.int .i64 1)))⟩,
        ⟨(some 24), none, (.mov (.t 42))⟩])))))))
  (.seq (.ops [⟨(some 43), none, (.ld 2 true (.t 2))⟩,
    ⟨(some 44), none, (.mov (.t 1))⟩,
    ⟨(some 45), none, (.callF 21 [(.t 43), (.t 44)])⟩,
    ⟨(some 46), none, (.callF 22 [(.t 45)])⟩,
    ⟨(some 10), none, (.mov (.t 46))⟩])
  (.seq (.ops [⟨(some 47), none, (.mov (.t 10))⟩,
    ⟨(some 49), none, (.ld 2 true (.t 2))⟩,
    ⟨(some 50), none, (.mov (.t 10))⟩,
    ⟨(some 48), none, (.callF 23 [(.t 47)])⟩,
    ⟨none, none, (.chk 2 true (.t 2) 49)⟩,
    ⟨(some 51), none, (.callF 24 [(.t 49), (.t 50)])⟩,
    ⟨(some 4), none, (.mov (.t 48))⟩,
    ⟨(some 5), none, (.mov (.t 51))⟩,
    ⟨(some 6), none, (.mov (.k (.int .i64 0)))⟩])
  .ret))))))⟩
def hint15 (P : Program) : Hint := {}

/-- What the program asks of an order, one number after the other. -/
def ordB (n : Int) : List Int → List Int → Bool
  | _, [] => true
  | pre, g :: r => inB g 0 (n - 1) && !decide (0 ≤ idxI pre g) && ordB n (pre ++ [g]) r
theorem ordB_iff {n : Nat} : ∀ (r pre : List Int), pre.Nodup → (ordB n pre r = true ↔ (pre ++ r).Nodup ∧ ∀ x ∈ r, 0 ≤ x ∧ x < n)
  | [], pre, h => by simp [ordB, h]
  | g :: r, pre, h => by
    rw [ordB, Bool.and_eq_true, Bool.and_eq_true, inB_t]
    by_cases hm : g ∈ pre
    · have h1 : (!decide (0 ≤ idxI pre g)) = false := by simp [idx_mem.2 hm]
      rw [h1]
      constructor
      · intro hh; exact absurd hh.1.2 (by simp)
      · intro hh
        exfalso
        have := (List.nodup_append.1 hh.1).2.2 g hm g (by simp)
        exact this rfl
    · have h1 : (!decide (0 ≤ idxI pre g)) = true := by
        have : ¬ 0 ≤ idxI pre g := fun hc => hm (idx_mem.1 hc)
        simp [this]
      have hn : (pre ++ [g]).Nodup := by
        rw [List.nodup_append]
        exact ⟨h, by simp, fun a ha b hb => by simp at hb; subst hb; exact fun e => hm (e ▸ ha)⟩
      rw [h1, ordB_iff r (pre ++ [g]) hn]
      rw [show pre ++ [g] ++ r = pre ++ g :: r by simp]
      constructor
      · rintro ⟨⟨h2, _⟩, h3, h4⟩
        exact ⟨h3, fun x hx => by
          rcases List.mem_cons.1 hx with rfl | hx
          · omega
          · exact h4 x hx⟩
      · rintro ⟨h3, h4⟩
        exact ⟨⟨by have := h4 g (by simp); omega, rfl⟩, h3, fun x hx => h4 x (by simp [hx])⟩
theorem ordB_perm {n : Nat} {l : List Int} (hl : l.length = n) : ordB n [] l = true ↔ isPerm n l := by
  rw [ordB_iff l [] List.nodup_nil, List.nil_append]
  exact ⟨fun h => ⟨hl, h.1, h.2⟩, fun h => ⟨h.nd, h.bd⟩⟩
/-- Price: the rules that are broken, what they cost, the error. -/
def priceP (gs : List Guest) (rs : List Rule) (l : List Int) : Option (List Int) × Int × Int :=
  if pErr gs rs = 0 then (if l.length = gs.length ∧ ordB gs.length [] l = true then (some (plcF (brP gs l) 0 rs), prS gs rs l, 0) else (none, 0, 3)) else (none, 0, pErr gs rs)
theorem Price_c (gs : List Guest) (rs : List Rule) (l : List Int) (hl0 : gs.length < 1000) (hr0 : rs.length < 1000) (hs : ∀ g ∈ gs, g.name.size ≤ 1000) (hl : l.length < 1000) :
    Fn0 Try.prog 15 [pA gs rs, .slc 1 (iR l) .non] (fun v => v = .tup [optV (priceP gs rs l).1, .int .i64 (priceP gs rs l).2.1, .int .i64 (priceP gs rs l).2.2]) := by
  have hck := Check_c gs rs hl0 hr0 hs
  by_cases h0 : pErr gs rs = 0
  case neg =>
    rw [show priceP gs rs l = (none, 0, pErr gs rs) by rw [priceP, if_neg h0]]
    refine RawC.walk (H := hint15 Try.prog) ir15 Try.func15 rfl rfl rfl ?_
    unfold ir15
    repeat' (first
      | with_reducible (first | refine Rd.p ?_ | refine zE ?_ | refine zE0 ?_)
      | with_reducible (first | refine zI fun y hy => ?_ | refine zL ?_ | refine zS ?_ | refine zA fun _ => ?_ | refine zV ?_ | refine zC ?_ | refine zG ?_ | refine zU ?_ | refine zG0 ?_ | refine zU0 ?_ | refine zF ?_)
      | ((with_reducible refine acall_id ?_); refine ACall.val hck rfl rfl ?_)
      | with_reducible (first | refine zX ?_ | refine zD fun _ => ?_ | refine zD0 ?_ | refine zN ?_ | refine zF0 ?_ | refine zX0 ?_ | refine z1 ?_ | refine z2 ?_ | refine z3 ?_ | refine z4 ?_ | refine z5 ?_ | refine z6 ?_ | refine z7 ?_ | refine z8 ?_ | refine y1 ?_ | refine y2 ?_ | refine y3 ?_ | refine y4 ?_ | refine y5 ?_ | refine y6 ?_ | refine y7 ?_ | refine y8 ?_ | refine Rt.p (fun _ => ?_) fun _ => ?_)
      | ((with_reducible apply w_ixM); (focus exact rfl); (focus exact rfl); case' hk => intro y hy) | ((with_reducible (first | apply w_val | apply q_ends)); (focus exact rfl)))
    rfl
  have hp := pOK_of h0
  rw [h0] at hck
  by_cases hlen : l.length = gs.length
  case neg =>
    rw [show priceP gs rs l = (none, 0, 3) by rw [priceP, if_pos h0, if_neg fun h => hlen h.1]]
    refine RawC.walk (H := hint15 Try.prog) ir15 Try.func15 rfl rfl rfl ?_
    unfold ir15
    repeat' (first
      | with_reducible (first | refine Rd.p ?_ | refine zE ?_ | refine zE0 ?_)
      | with_reducible (first | refine zI fun y hy => ?_ | refine zL ?_ | refine zS ?_ | refine zA fun _ => ?_ | refine zV ?_ | refine zC ?_ | refine zG ?_ | refine zU ?_ | refine zG0 ?_ | refine zU0 ?_ | refine zF ?_)
      | ((with_reducible refine acall_id ?_); refine ACall.val hck rfl rfl ?_)
      | with_reducible (first | refine zX ?_ | refine zD fun _ => ?_ | refine zD0 ?_ | refine zN ?_ | refine zF0 ?_ | refine zX0 ?_ | refine z1 ?_ | refine z2 ?_ | refine z3 ?_ | refine z4 ?_ | refine z5 ?_ | refine z6 ?_ | refine z7 ?_ | refine z8 ?_ | refine y1 ?_ | refine y2 ?_ | refine y3 ?_ | refine y4 ?_ | refine y5 ?_ | refine y6 ?_ | refine y7 ?_ | refine y8 ?_ | refine Rt.p (fun _ => ?_) fun _ => ?_)
      | ((with_reducible apply w_ixM); (focus exact rfl); (focus exact rfl); case' hk => intro y hy) | ((with_reducible (first | apply w_val | apply q_ends)); (focus exact rfl)))
    rfl
  have hpp : priceP gs rs l = if ordB gs.length [] l = true then (some (plcF (brP gs l) 0 rs), prS gs rs l, 0) else (none, 0, 3) := by
    rw [priceP, if_pos h0]; simp [hlen]
  rw [hpp]
  have h7 := hp.g7
  have h12 := hp.r12
  refine RawC.walk (H := hint15 Try.prog) ir15 Try.func15 rfl rfl rfl ?_
  unfold ir15
  repeat' (first
    | with_reducible (first | refine Rd.p ?_ | refine zE ?_ | refine zE0 ?_)
    | with_reducible (first | refine zI fun y hy => ?_ | refine zL ?_ | refine zS ?_ | refine zA fun _ => ?_ | refine zV ?_ | refine zC ?_ | refine zG ?_ | refine zU ?_ | refine zG0 ?_ | refine zU0 ?_ | refine zF ?_)
    | ((with_reducible refine acall_id ?_); refine ACall.val hck rfl rfl ?_)
    | with_reducible (first | refine zX ?_ | refine zD fun _ => ?_ | refine zD0 ?_ | refine zN ?_ | refine zF0 ?_ | refine zX0 ?_ | refine z1 ?_ | refine z2 ?_ | refine z3 ?_ | refine z4 ?_ | refine z5 ?_ | refine z6 ?_ | refine z7 ?_ | refine z8 ?_ | refine y1 ?_ | refine y2 ?_ | refine y3 ?_ | refine y4 ?_ | refine y5 ?_ | refine y6 ?_ | refine y7 ?_ | refine y8 ?_ | refine Rt.p (fun _ => ?_) fun _ => ?_)
    | ((with_reducible apply w_ixM); (focus exact rfl); (focus exact rfl); case' hk => intro y hy) | ((with_reducible (first | apply w_val | apply q_ends)); (focus exact rfl)))
  refine w_loopK [1, 2, 22, 23] [2] (fun x : List Int × List Int => l = x.1 ++ x.2 ∧ ordB gs.length [] l = ordB gs.length x.1 x.2) (fun x => x.2.length) (fun x => [(24, .int .i64 x.1.length)]) (fun _ => []) ([], l) ⟨rfl, rfl⟩ ⟨rfl, trivial⟩ trivial ?_
  rintro ⟨pre, post⟩ ⟨hl1, hb⟩ e σ
  dsimp only at hl1 hb ⊢
  have hlen1 := congrArg List.length hl1
  cases post with
  | nil =>
    simp only [List.append_nil, List.length_append, List.length_nil] at hlen1
    have hok : ordB gs.length [] l = true := by rw [hb]; rfl
    have hpm := (ordB_perm hlen).1 hok
    rw [hok, if_pos rfl]
    have hal := atL_len l
    have hso := seatedOf_c gs rs l (by omega) (fun i hi => by rw [hlen]; exact hpm.bd i hi)
    have hbr : Fn0 Try.prog 22 [sA gs rs (atL l)] (fun v => v = .int .i64 (brk gs rs l)) := broken_c gs rs (atL l) (fun r h => by rw [hal, hlen]; exact hp.r r h) (by omega) (by omega) (atL_bd l (by omega)) h12
    have hlt := brk_lt gs rs l
    have hme := members_c (brk gs rs l) (Nat.lt_trans hlt (pow62 h12))
    have hpr := price_c gs rs (brk gs rs l) (fun r hr => (hp.r r hr).weight) hlt h12
    rw [price_brk gs rs l (by omega)] at hpr
    rw [show membersL (brk gs rs l) = plcF (brP gs l) 0 rs from members_bits _ _ (by omega)] at hme
    repeat' (first
      | with_reducible (first | refine Rd.p ?_ | refine zE ?_ | refine zE0 ?_)
      | with_reducible (first | refine zI fun y hy => ?_ | refine zL ?_ | refine zS ?_ | refine zA fun _ => ?_ | refine zV ?_ | refine zC ?_ | refine zG ?_ | refine zU ?_ | refine zG0 ?_ | refine zU0 ?_ | refine zF ?_)
      | ((with_reducible refine acall_id ?_); refine ACall.val hso rfl rfl ?_)
      | ((with_reducible refine acall_id ?_); refine ACall.val hbr rfl rfl ?_)
      | ((with_reducible refine acall_id ?_); refine ACall.val hme rfl rfl ?_)
      | ((with_reducible refine acall_id ?_); refine ACall.val hpr rfl rfl ?_)
      | with_reducible (first | refine zX ?_ | refine zD fun _ => ?_ | refine zD0 ?_ | refine zN ?_ | refine zF0 ?_ | refine zX0 ?_ | refine z1 ?_ | refine z2 ?_ | refine z3 ?_ | refine z4 ?_ | refine z5 ?_ | refine z6 ?_ | refine z7 ?_ | refine z8 ?_ | refine y1 ?_ | refine y2 ?_ | refine y3 ?_ | refine y4 ?_ | refine y5 ?_ | refine y6 ?_ | refine y7 ?_ | refine y8 ?_ | refine Rt.p (fun _ => ?_) fun _ => ?_)
      | ((with_reducible apply w_ixM); (focus exact rfl); (focus exact rfl); case' hk => intro y hy) | ((with_reducible (first | apply w_val | apply q_ends)); (focus exact rfl)))
    rfl
  | cons g post =>
    simp only [List.length_append, List.length_cons] at hlen1
    rw [ordB] at hb
    have ht : (l.drop ((0 : Int)).toNat).take ((pre.length : Int) - 0).toNat = pre := by rw [hl1]; simp
    have hin := in_c g 0 ((gs.length : Int) - 1)
    have hco := contains_c pre g (by omega)
    rw [← ht] at hco
    have hll : (l.length : Int) = gs.length := by omega
    cases hi : inB g 0 ((gs.length : Int) - 1) with
    | false =>
      rw [hi] at hb hin
      rw [← hll] at hin
      have hno : ordB gs.length [] l = false := by rw [hb]; rfl
      rw [hno, if_neg (by simp)]
      repeat' (first
        | with_reducible (first | refine Rd.p ?_ | refine zE ?_ | refine zE0 ?_)
        | (refine w_ixP hl1 rfl rfl ?_)
        | with_reducible (first | refine zI fun y hy => ?_ | refine zL ?_ | refine zS ?_ | refine zA fun _ => ?_ | refine zV ?_ | refine zC ?_ | refine zG ?_ | refine zU ?_ | refine zG0 ?_ | refine zU0 ?_ | refine zF ?_)
        | ((with_reducible refine acall_id ?_); refine ACall.val hin rfl rfl ?_)
        | with_reducible (first | refine zX ?_ | refine zD fun _ => ?_ | refine zD0 ?_ | refine zN ?_ | refine zF0 ?_ | refine zX0 ?_ | refine z1 ?_ | refine z2 ?_ | refine z3 ?_ | refine z4 ?_ | refine z5 ?_ | refine z6 ?_ | refine z7 ?_ | refine z8 ?_ | refine y1 ?_ | refine y2 ?_ | refine y3 ?_ | refine y4 ?_ | refine y5 ?_ | refine y6 ?_ | refine y7 ?_ | refine y8 ?_ | refine Rt.p (fun _ => ?_) fun _ => ?_)
        | ((with_reducible apply w_ixM); (focus exact rfl); (focus exact rfl); case' hk => intro y hy) | ((with_reducible (first | apply w_val | apply q_ends)); (focus exact rfl)))
      rfl
    | true =>
      rw [hi] at hb hin
      rw [← hll] at hin
      by_cases hc : 0 ≤ idxI pre g
      · have hno : ordB gs.length [] l = false := by rw [hb]; simp [hc]
        rw [hno, if_neg (by simp)]
        rw [ht, decide_eq_true hc, ← ht] at hco
        repeat' (first
          | with_reducible (first | refine Rd.p ?_ | refine zE ?_ | refine zE0 ?_)
          | (refine w_ixP hl1 rfl rfl ?_)
          | with_reducible (first | refine zI fun y hy => ?_ | refine zL ?_ | refine zS ?_ | refine zA fun _ => ?_ | refine zV ?_ | refine zC ?_ | refine zG ?_ | refine zU ?_ | refine zG0 ?_ | refine zU0 ?_ | refine zF ?_)
          | ((with_reducible refine acall_id ?_); refine ACall.val hin rfl rfl ?_)
          | ((with_reducible refine acall_id ?_); refine ACall.val hco rfl rfl ?_)
          | with_reducible (first | refine zX ?_ | refine zD fun _ => ?_ | refine zD0 ?_ | refine zN ?_ | refine zF0 ?_ | refine zX0 ?_ | refine z1 ?_ | refine z2 ?_ | refine z3 ?_ | refine z4 ?_ | refine z5 ?_ | refine z6 ?_ | refine z7 ?_ | refine z8 ?_ | refine y1 ?_ | refine y2 ?_ | refine y3 ?_ | refine y4 ?_ | refine y5 ?_ | refine y6 ?_ | refine y7 ?_ | refine y8 ?_ | refine Rt.p (fun _ => ?_) fun _ => ?_)
          | ((with_reducible apply w_ixM); (focus exact rfl); (focus exact rfl); case' hk => intro y hy) | ((with_reducible (first | apply w_val | apply q_ends)); (focus exact rfl)))
        rfl
      · rw [ht, decide_eq_false hc, ← ht] at hco
        repeat' (first
          | with_reducible (first | refine Rd.p ?_ | refine zE ?_ | refine zE0 ?_)
          | (refine w_ixP hl1 rfl rfl ?_)
          | with_reducible (first | refine zI fun y hy => ?_ | refine zL ?_ | refine zS ?_ | refine zA fun _ => ?_ | refine zV ?_ | refine zC ?_ | refine zG ?_ | refine zU ?_ | refine zG0 ?_ | refine zU0 ?_ | refine zF ?_)
          | ((with_reducible refine acall_id ?_); refine ACall.val hin rfl rfl ?_)
          | ((with_reducible refine acall_id ?_); refine ACall.val hco rfl rfl ?_)
          | with_reducible (first | refine zX ?_ | refine zD fun _ => ?_ | refine zD0 ?_ | refine zN ?_ | refine zF0 ?_ | refine zX0 ?_ | refine z1 ?_ | refine z2 ?_ | refine z3 ?_ | refine z4 ?_ | refine z5 ?_ | refine z6 ?_ | refine z7 ?_ | refine z8 ?_ | refine y1 ?_ | refine y2 ?_ | refine y3 ?_ | refine y4 ?_ | refine y5 ?_ | refine y6 ?_ | refine y7 ?_ | refine y8 ?_ | refine Rt.p (fun _ => ?_) fun _ => ?_)
          | ((with_reducible apply w_ixM); (focus exact rfl); (focus exact rfl); case' hk => intro y hy) | ((with_reducible (first | apply w_val | apply q_ends)); (focus exact rfl)))
        refine zQ (pre ++ [g], post) ?_ ?_
        · exact ⟨by rw [hl1]; simp, by rw [hb]; simp [hc]⟩
        · simp
end Go.Abs
