/- A part of the proofs of the laws of this seat: contracts of the functions that they reach, each proved of the program's form in Lean. No condition beyond those that each contract names. -/
import Derived.Test.YtcgcciegekaliaaB8
import Derived.Test.YtcgcciegekaliaaB0
import Derived.Test.YtcgcciegekaliaaB10
import Derived.Test.YtcgcciegekaliaaB9
import Derived.Test.YtcgcciegekaliaaB11
import Derived.Test.YtcgcciegekaliaaB5
set_option linter.unusedVariables false
set_option linter.unusedSimpArgs false
set_option maxRecDepth 20000
set_option maxHeartbeats 4000000
/-! ### The best order -/
namespace Go.Abs
open Go.Proofs
/-- aloeswood/seat.Best -/
def ir33 : IFn :=
  ⟨34, [(2, some (1, false)), (3, some (1, false)), (4, none)], (.seq (.ops [⟨(some 1), none, (.box 2 (.t 0))⟩,
    ⟨(some 2), none, (.new [.nsl])⟩,
    ⟨(some 3), none, (.new [(.int .i64 0)])⟩,
    ⟨(some 4), none, (.mov (.k (.int .i64 0)))⟩])
  (.seq (.seq (.ops [⟨(some 9), none, (.ld 2 true (.t 1))⟩,
    ⟨(some 10), none, (.callF 39 [(.t 9)])⟩,
    ⟨(some 5), none, (.mov (.t 10))⟩])
  (.seq (.ops [⟨(some 11), none, (.mov (.t 5))⟩,
    ⟨(some 12), none, (.bin .neq (.t 11) (.k (.int .i64 0)))⟩])
  (.cnd (.t 12)
    (.seq (.ops [⟨(some 13), none, (.mov (.t 5))⟩,
      ⟨none, none, (.st 1 (.t 2) (.k .nsl))⟩,
      ⟨none, none, (.st 1 (.t 3) (.k (.int .i64 0)))⟩,
      ⟨(some 4), none, (.mov (.t 13))⟩])
    .ret)
    .skip)))
  (.seq (.seq (.ops [⟨(some 14), none, (.ld 2 true (.t 1))⟩,
    ⟨(some 15), none, (.callF 82 [(.t 14)])⟩])
  (.blk 0 (.rf (.t 15) [16, 17] (.seq (.ops [⟨(some 6), none, (.mov (.t 16))⟩])
      (.ops [⟨(some 7), none, (.mov (.t 17))⟩]))
      (.blk 1 (.seq (.ops [⟨(some 18), none, (.ld 2 true (.t 1))⟩,
          ⟨(some 19), none, (.mov (.t 7))⟩,
          ⟨(some 20), none, (.callF 83 [(.t 18), (.t 19)])⟩,
          ⟨(some 8), none, (.mov (.t 20))⟩])
        (.seq (.ops [⟨(some 21), none, (.ld 1 false (.t 2))⟩,
          ⟨(some 22), none, (.eqn .slice false (.t 21) (.k .nsl))⟩,
          ⟨(some 23), none, (.mov (.t 22))⟩,
          ⟨(some 24), (some (23, false)), (.mov (.t 8))⟩,
          ⟨(some 25), (some (23, false)), (.ld 1 false (.t 3))⟩,
          ⟨(some 26), (some (23, false)), (.bin .lss (.t 24) (.t 25))⟩,
          ⟨(some 27), none, (.pick (.t 23) (.k (.bool true)) (.t 26))⟩])
        (.cnd (.t 27)
          (.ops [⟨(some 28), none, (.mov (.t 6))⟩,
            ⟨(some 29), none, (.mov (.t 8))⟩,
            ⟨none, none, (.st 1 (.t 2) (.t 28))⟩,
            ⟨none, none, (.st 1 (.t 3) (.t 29))⟩])
          .skip)))))))
  (.seq (.seq (.ops [⟨(some 30), none, (.ld 1 false (.t 2))⟩,
    ⟨(some 31), none, (.eqn .slice false (.t 30) (.k .nsl))⟩])
  (.cnd (.t 31)
    (.seq (.ops [⟨none, none, (.st 1 (.t 2) (.k .nsl))⟩,
      ⟨none, none, (.st 1 (.t 3) (.k (.int .i64 0)))⟩,
      ⟨(some 4), none, (.mov (.k (.int .i64 12)))⟩])
    .ret)
    .skip))
  (.seq (.ops [⟨(some 32), none, (.ld 1 false (.t 2))⟩,
    ⟨(some 33), none, (.ld 1 false (.t 3))⟩,
    ⟨none, none, (.st 1 (.t 2) (.t 32))⟩,
    ⟨none, none, (.chk 1 false (.t 3) 33)⟩,
    ⟨none, none, (.st 1 (.t 3) (.t 33))⟩,
    ⟨(some 4), none, (.mov (.k (.int .i64 0)))⟩])
  .ret)))))⟩
def hint33 (P : Program) : Hint := {}

def wAt (rs : List Rule) (i : Int) : Int := ((rs[i.toNat]?).map (·.weight)).getD 0
def priceF (rs : List Rule) : List Int → Int
  | [] => 0
  | i :: r => wAt rs i + priceF rs r
theorem priceF_snoc (rs : List Rule) (i : Int) : ∀ m, priceF rs (m ++ [i]) = priceF rs m + wAt rs i
  | [] => by simp [priceF]
  | x :: m => by simp only [List.cons_append, priceF, priceF_snoc rs i m]; omega
theorem wAt_bd {rs : List Rule} (h : ∀ r ∈ rs, 0 ≤ r.weight ∧ r.weight ≤ 1000) (i : Int) : 0 ≤ wAt rs i ∧ wAt rs i ≤ 1000 := by
  unfold wAt
  cases hi : rs[i.toNat]? with
  | none => simp
  | some d => exact h d (List.mem_of_getElem? hi)
theorem priceF_bd {rs : List Rule} (h : ∀ r ∈ rs, 0 ≤ r.weight ∧ r.weight ≤ 1000) : ∀ m, 0 ≤ priceF rs m ∧ priceF rs m ≤ 1000 * m.length
  | [] => by simp [priceF]
  | i :: m => by
    have := priceF_bd h m
    have := wAt_bd h i
    simp only [priceF, List.length_cons]; omega
theorem members_lt {set n : Nat} (h : set < 2 ^ n) {i : Int} (hi : i ∈ membersL set) : 0 ≤ i ∧ i < n := by
  unfold membersL bitsL at hi
  obtain ⟨j, hj, rfl⟩ := List.mem_map.1 hi
  have hb := (List.mem_filter.1 hj).2
  refine ⟨by omega, ?_⟩
  refine Decidable.byContradiction fun hc => ?_
  have := Nat.testBit_lt_two_pow (Nat.lt_of_lt_of_le h (Nat.pow_le_pow_right (by omega) (show n ≤ j by omega)))
  rw [this] at hb; cases hb
theorem price_c (gs : List Guest) (rs : List Rule) (set : Nat) (hr : ∀ r ∈ rs, 0 ≤ r.weight ∧ r.weight ≤ 1000) (hs : set < 2 ^ rs.length) (hrs : rs.length ≤ 12) :
    Fn0 Try.prog 83 [pA gs rs, .int .i64 set] (fun v => v = .int .i64 (priceF rs (membersL set))) := by
  have hml : (membersL set).length ≤ 62 := bitsL_len set 62
  refine RawC.walk (H := hint83 Try.prog) ir83 Try.func83 rfl rfl rfl ?_
  unfold ir83
  repeat' (first
    | with_reducible (first | refine Rd.p ?_ | refine zE ?_ | refine zE0 ?_)
    | with_reducible (first | refine zI fun y hy => ?_ | refine zL ?_ | refine zS ?_ | refine zA fun _ => ?_ | refine zV ?_ | refine zC ?_ | refine zG ?_ | refine zU ?_ | refine zG0 ?_ | refine zU0 ?_ | refine zF ?_)
    | ((with_reducible refine acall_id ?_); refine ACall.val (members_c set (Nat.lt_trans hs (pow62 hrs))) rfl rfl ?_)
    | with_reducible (first | refine zX ?_ | refine zD fun _ => ?_ | refine zD0 ?_ | refine zN ?_ | refine zF0 ?_ | refine zX0 ?_ | refine z1 ?_ | refine z2 ?_ | refine z3 ?_ | refine z4 ?_ | refine z5 ?_ | refine z6 ?_ | refine z7 ?_ | refine z8 ?_ | refine y1 ?_ | refine y2 ?_ | refine y3 ?_ | refine y4 ?_ | refine y5 ?_ | refine y6 ?_ | refine y7 ?_ | refine y8 ?_ | refine Rt.p (fun _ => ?_) fun _ => ?_)
    | ((with_reducible apply w_ixM); (focus exact rfl); (focus exact rfl); case' hk => intro y hy) | ((with_reducible (first | apply w_val | apply q_ends)); (focus exact rfl)))
  refine w_loopK [2, 9, 10] [2] (fun x : List Int × List Int => membersL set = x.1 ++ x.2) (fun x => x.2.length) (fun x => [(11, .int .i64 x.1.length), (5, .int .i64 (priceF rs x.1))]) (fun _ => []) ([], membersL set) rfl ⟨rfl, rfl, trivial⟩ trivial ?_
  rintro ⟨pre, post⟩ hl e σ
  dsimp only at hl ⊢
  have hlen := congrArg List.length hl
  have hpb := priceF_bd hr pre
  cases post with
  | nil =>
    simp only [List.append_nil, List.length_append, List.length_nil] at hlen hl
    repeat' (first
      | with_reducible (first | refine Rd.p ?_ | refine zE ?_ | refine zE0 ?_)
      | with_reducible (first | refine zI fun y hy => ?_ | refine zL ?_ | refine zS ?_ | refine zA fun _ => ?_ | refine zV ?_ | refine zC ?_ | refine zG ?_ | refine zU ?_ | refine zG0 ?_ | refine zU0 ?_ | refine zF ?_)
      | with_reducible (first | refine zX ?_ | refine zD fun _ => ?_ | refine zD0 ?_ | refine zN ?_ | refine zF0 ?_ | refine zX0 ?_ | refine z1 ?_ | refine z2 ?_ | refine z3 ?_ | refine z4 ?_ | refine z5 ?_ | refine z6 ?_ | refine z7 ?_ | refine z8 ?_ | refine y1 ?_ | refine y2 ?_ | refine y3 ?_ | refine y4 ?_ | refine y5 ?_ | refine y6 ?_ | refine y7 ?_ | refine y8 ?_ | refine Rt.p (fun _ => ?_) fun _ => ?_)
      | ((with_reducible apply w_ixM); (focus exact rfl); (focus exact rfl); case' hk => intro y hy) | ((with_reducible (first | apply w_val | apply q_ends)); (focus exact rfl)))
    rw [hl]; rfl
  | cons i post =>
    simp only [List.length_append, List.length_cons] at hlen
    have hi := members_lt hs (show i ∈ membersL set by rw [hl]; simp)
    have hw := wAt_bd hr i
    have hsn := priceF_snoc rs i pre
    have hwy : ∀ {y : Rule}, rs[i.toNat]? = some y → y.weight = wAt rs i := fun h => by simp [wAt, h]
    repeat' (first
      | with_reducible (first | refine Rd.p ?_ | refine zE ?_ | refine zE0 ?_)
      | (refine w_ixP hl rfl rfl ?_)
      | with_reducible (first | refine zI fun y hy => ?_ | refine zL ?_ | refine zS ?_ | refine zA fun _ => ?_ | refine zV ?_ | refine zC ?_ | refine zG ?_ | refine zU ?_ | refine zG0 ?_ | refine zU0 ?_ | refine zF ?_)
      | ((with_reducible refine acall_id ?_); refine ACall.val (sum2_c (priceF rs pre) y.weight (by omega) (by rw [hwy hy]; omega)) rfl rfl ?_)
      | with_reducible (first | refine zX ?_ | refine zD fun _ => ?_ | refine zD0 ?_ | refine zN ?_ | refine zF0 ?_ | refine zX0 ?_ | refine z1 ?_ | refine z2 ?_ | refine z3 ?_ | refine z4 ?_ | refine z5 ?_ | refine z6 ?_ | refine z7 ?_ | refine z8 ?_ | refine y1 ?_ | refine y2 ?_ | refine y3 ?_ | refine y4 ?_ | refine y5 ?_ | refine y6 ?_ | refine y7 ?_ | refine y8 ?_ | refine Rt.p (fun _ => ?_) fun _ => ?_)
      | ((with_reducible apply w_ixM); (focus exact rfl); (focus exact rfl); case' hk => intro y hy) | ((with_reducible (first | apply w_val | apply q_ends)); (focus exact rfl)))
    rw [hwy hy]
    refine zQ (pre ++ [i], post) ?_ ?_
    · rw [hl]; simp
    · simp
/-- The best order so far, and its price. -/
def stepB (rs : List Rule) (acc : Option (List Int) × Int) (x : List Int × Nat) : Option (List Int) × Int :=
  if acc.1 = none ∨ priceF rs (membersL x.2) < acc.2 then (some x.1, priceF rs (membersL x.2)) else acc
def bestB (gs : List Guest) (rs : List Rule) : Option (List Int) × Int := (allowF gs rs (perms gs.length)).foldl (stepB rs) (none, 0)
/-- Best: the order, its price, the error. -/
def bestP (gs : List Guest) (rs : List Rule) : Option (List Int) × Int × Int :=
  if pErr gs rs = 0 then (if (bestB gs rs).1 = none then (none, 0, 12) else ((bestB gs rs).1, (bestB gs rs).2, 0)) else (none, 0, pErr gs rs)
theorem rsErr_each {n : Int} : ∀ {rs : List Rule}, rsErr n rs = 0 → ∀ r ∈ rs, rErr r n = 0
  | [], _, r, h => by cases h
  | x :: rs, h, r, hr => by
    rw [rsErr] at h
    split at h
    · rename_i h0
      rcases List.mem_cons.1 hr with rfl | hr
      · exact h0
      · exact rsErr_each h r hr
    · rename_i h0; exact absurd h h0
structure pOK (gs : List Guest) (rs : List Rule) : Prop where
  g1 : 1 ≤ gs.length
  g7 : gs.length ≤ 7
  r12 : rs.length ≤ 12
  r : ∀ r ∈ rs, rOK r gs.length
theorem pOK_of {gs : List Guest} {rs : List Rule} (h : pErr gs rs = 0) : pOK gs rs := by
  unfold pErr at h
  split at h
  · cases h
  split at h
  · cases h
  split at h
  · split at h
    · cases h
    · exact ⟨by omega, by omega, by omega, fun r hr => rOK_of (rsErr_each h r hr)⟩
  · rename_i h0; exact absurd h h0
theorem allowF_mem {gs : List Guest} {rs : List Rule} : ∀ {ls : List (List Int)} {x}, x ∈ allowF gs rs ls → x.1 ∈ ls ∧ x.2 < 2 ^ rs.length
  | l :: ls, x, h => by
    rw [allowF] at h
    split at h
    · rcases List.mem_cons.1 h with rfl | h
      · exact ⟨by simp, brk_lt gs rs l⟩
      · have := allowF_mem h; exact ⟨by simp [this.1], this.2⟩
    · have := allowF_mem h; exact ⟨by simp [this.1], this.2⟩
theorem Best_c (gs : List Guest) (rs : List Rule) (hl0 : gs.length < 1000) (hr0 : rs.length < 1000) (hs : ∀ g ∈ gs, g.name.size ≤ 1000) :
    Fn0 Try.prog 33 [pA gs rs] (fun v => v = .tup [optV (bestP gs rs).1, .int .i64 (bestP gs rs).2.1, .int .i64 (bestP gs rs).2.2]) := by
  by_cases h0 : pErr gs rs = 0
  case neg =>
    rw [show bestP gs rs = (none, 0, pErr gs rs) by rw [bestP, if_neg h0]]
    refine RawC.walk (H := hint33 Try.prog) ir33 Try.func33 rfl rfl rfl ?_
    unfold ir33
    repeat' (first
      | with_reducible (first | refine Rd.p ?_ | refine zE ?_ | refine zE0 ?_)
      | with_reducible (first | refine zI fun y hy => ?_ | refine zL ?_ | refine zS ?_ | refine zA fun _ => ?_ | refine zV ?_ | refine zC ?_ | refine zG ?_ | refine zU ?_ | refine zG0 ?_ | refine zU0 ?_ | refine zF ?_)
      | ((with_reducible refine acall_id ?_); refine ACall.val (Check_c gs rs hl0 hr0 hs) rfl rfl ?_)
      | with_reducible (first | refine zX ?_ | refine zD fun _ => ?_ | refine zD0 ?_ | refine zN ?_ | refine zF0 ?_ | refine zX0 ?_ | refine z1 ?_ | refine z2 ?_ | refine z3 ?_ | refine z4 ?_ | refine z5 ?_ | refine z6 ?_ | refine z7 ?_ | refine z8 ?_ | refine y1 ?_ | refine y2 ?_ | refine y3 ?_ | refine y4 ?_ | refine y5 ?_ | refine y6 ?_ | refine y7 ?_ | refine y8 ?_ | refine Rt.p (fun _ => ?_) fun _ => ?_)
      | ((with_reducible apply w_ixM); (focus exact rfl); (focus exact rfl); case' hk => intro y hy) | ((with_reducible (first | apply w_val | apply q_ends)); (focus exact rfl)))
    rfl
  have hp := pOK_of h0
  have h7 := hp.g7
  have h12 := hp.r12
  have hw : ∀ r ∈ rs, 0 ≤ r.weight ∧ r.weight ≤ 1000 := fun r hr => (hp.r r hr).weight
  have hbp : bestP gs rs = if (bestB gs rs).1 = none then (none, 0, 12) else ((bestB gs rs).1, (bestB gs rs).2, 0) := by rw [bestP, if_pos h0]
  refine RawC.walk (H := hint33 Try.prog) ir33 Try.func33 rfl rfl rfl ?_
  unfold ir33
  repeat' (first
    | with_reducible (first | refine Rd.p ?_ | refine zE ?_ | refine zE0 ?_)
    | with_reducible (first | refine zI fun y hy => ?_ | refine zL ?_ | refine zS ?_ | refine zA fun _ => ?_ | refine zV ?_ | refine zC ?_ | refine zG ?_ | refine zU ?_ | refine zG0 ?_ | refine zU0 ?_ | refine zF ?_)
    | ((with_reducible refine acall_id ?_); refine ACall.val (Check_c gs rs hl0 hr0 hs) rfl rfl ?_)
    | ((with_reducible refine acall_id ?_); refine ACall.val (allowed_c gs rs) rfl rfl ?_)
    | with_reducible (first | refine zX ?_ | refine zD fun _ => ?_ | refine zD0 ?_ | refine zN ?_ | refine zF0 ?_ | refine zX0 ?_ | refine z1 ?_ | refine z2 ?_ | refine z3 ?_ | refine z4 ?_ | refine z5 ?_ | refine z6 ?_ | refine z7 ?_ | refine z8 ?_ | refine y1 ?_ | refine y2 ?_ | refine y3 ?_ | refine y4 ?_ | refine y5 ?_ | refine y6 ?_ | refine y7 ?_ | refine y8 ?_ | refine Rt.p (fun _ => ?_) fun _ => ?_)
    | ((with_reducible apply w_ixM); (focus exact rfl); (focus exact rfl); case' hk => intro y hy) | ((with_reducible (first | apply w_val | apply q_ends)); (focus exact rfl)))
  rename_i g1 g2 g3
  refine w_rfM enc2 (allowF gs rs (perms gs.length)) rfl (allowed_it gs rs (by omega) hp.g1 hp.r hp.r12) (fun _ => rfl) [1] (fun (rest : List (List Int × Nat)) (y : Option (List Int) × Int) => okAcc y ∧ bestB gs rs = rest.foldl (stepB rs) y ∧ ∀ x ∈ rest, x.1 ≠ [] ∧ x.2 < 2 ^ rs.length) (fun y => [(2, (g2, .row [optV y.1])), (3, (g3, .row [.int .i64 y.2]))]) (none, 0) ?_ ⟨rfl, rfl, trivial⟩ ?_ ?_
  · refine ⟨(fun m hm => (by cases hm)), rfl, fun x hx => ?_⟩
    have h1 := allowF_mem hx
    have h2 := permsK_mem h1.1
    refine ⟨fun h => ?_, h1.2⟩
    rw [h] at h2
    have h3 := h2.1
    have := hp.g1
    simp at h3; omega
  · rintro ⟨x, b⟩ rest ⟨o, c⟩ ⟨hoa, hf, hx⟩ σ'
    have hx0 := hx (x, b) (by simp)
    have hxr : ∀ x ∈ rest, x.1 ≠ [] ∧ x.2 < 2 ^ rs.length := fun y hy => hx y (by simp [hy])
    have hpr := price_c gs rs b hw hx0.2 hp.r12
    rw [List.foldl_cons] at hf
    have hst : stepB rs (o, c) (x, b) = if o = none ∨ priceF rs (membersL b) < c then (some x, priceF rs (membersL b)) else (o, c) := rfl
    cases ho : o with
    | none =>
      rw [ho] at hf hst hoa
      repeat' (first
        | with_reducible (first | refine Rd.p ?_ | refine zE ?_ | refine zE0 ?_)
        | with_reducible (first | refine zI fun y hy => ?_ | refine zL ?_ | refine zS ?_ | refine zA fun _ => ?_ | refine zV ?_ | refine zC ?_ | refine zG ?_ | refine zU ?_ | refine zG0 ?_ | refine zU0 ?_ | refine zF ?_)
        | ((with_reducible refine acall_id ?_); refine ACall.val hpr rfl rfl ?_)
        | with_reducible (first | refine zX ?_ | refine zD fun _ => ?_ | refine zD0 ?_ | refine zN ?_ | refine zF0 ?_ | refine zX0 ?_ | refine z1 ?_ | refine z2 ?_ | refine z3 ?_ | refine z4 ?_ | refine z5 ?_ | refine z6 ?_ | refine z7 ?_ | refine z8 ?_ | refine y1 ?_ | refine y2 ?_ | refine y3 ?_ | refine y4 ?_ | refine y5 ?_ | refine y6 ?_ | refine y7 ?_ | refine y8 ?_ | refine Rt.p (fun _ => ?_) fun _ => ?_)
        | ((with_reducible apply w_ixM); (focus exact rfl); (focus exact rfl); case' hk => intro y hy) | ((with_reducible (first | apply w_val | apply q_ends)); (focus exact rfl)))
      rw [hst, if_pos (.inl rfl)] at hf
      exact q_rnd (some x, priceF rs (membersL b)) ⟨fun m hm => (by cases hm; exact hx0.1), hf, hxr⟩ (by repeat' (first | exact slots_nil | apply slots_cons | rfl | (rw [map_snoc]; rfl) | (rw [len_snoc]; rfl) | (rw [hS]; rfl) | (rw [hS, map_snoc]; rfl) | (refine int_eq ?_; (try dsimp only); omega) | (refine congrArg AV.bool ?_; simp_all; done))) (by repeat' (first | exact kept_nil | apply kept_cons | rfl))
    | some m0 =>
      rw [ho] at hf hst hoa
      have hm0 : iR m0 ≠ [] := by have := hoa m0 rfl; simpa using this
      repeat' (first
        | with_reducible (first | refine Rd.p ?_ | refine zE ?_ | refine zE0 ?_)
        | with_reducible (first | refine zI fun y hy => ?_ | refine zL ?_ | refine zS ?_ | refine zA fun _ => ?_)
        | ((with_reducible apply w_ixM); (focus exact rfl); (focus exact rfl); (focus ((repeat' (with_reducible (first | exact trivial | apply And.intro))) <;> (first | exact hm0 | exact sd))); case' hk => intro y hy) | ((with_reducible apply w_slM); (focus exact rfl); (focus exact rfl); (focus exact rfl); (focus ((repeat' (with_reducible (first | exact trivial | apply And.intro))) <;> (first | exact hm0 | exact sd)))) | ((with_reducible apply w_val); (focus exact rfl); (focus ((repeat' (with_reducible (first | exact trivial | apply And.intro))) <;> (first | exact hm0 | exact sd)))) | ((with_reducible apply w_det); (focus exact fun _ => rfl); (focus ((repeat' (with_reducible (first | exact trivial | apply And.intro))) <;> (first | exact hm0 | exact sd))); case' hk => intro _) | ((with_reducible apply w_det0); (focus exact fun _ => rfl); (focus ((repeat' (with_reducible (first | exact trivial | apply And.intro))) <;> (first | exact hm0 | exact sd)))) | ((with_reducible apply q_ends); (focus exact rfl); (focus ((repeat' (with_reducible (first | exact trivial | apply And.intro))) <;> (first | exact hm0 | exact sd))))
        | with_reducible (first | refine zI fun y hy => ?_ | refine zL ?_ | refine zS ?_ | refine zA fun _ => ?_ | refine zV ?_ | refine zC ?_ | refine zG ?_ | refine zU ?_ | refine zG0 ?_ | refine zU0 ?_ | refine zF ?_)
        | ((with_reducible refine acall_id ?_); refine ACall.val hpr rfl rfl ?_)
        | with_reducible (first | refine zX ?_ | refine zD fun _ => ?_ | refine zD0 ?_ | refine zN ?_ | refine zF0 ?_ | refine zX0 ?_ | refine z1 ?_ | refine z2 ?_ | refine z3 ?_ | refine z4 ?_ | refine z5 ?_ | refine z6 ?_ | refine z7 ?_ | refine z8 ?_ | refine y1 ?_ | refine y2 ?_ | refine y3 ?_ | refine y4 ?_ | refine y5 ?_ | refine y6 ?_ | refine y7 ?_ | refine y8 ?_ | refine Rt.p (fun _ => ?_) fun _ => ?_)
        | ((with_reducible apply w_ixM); (focus exact rfl); (focus exact rfl); case' hk => intro y hy) | ((with_reducible (first | apply w_val | apply q_ends)); (focus exact rfl)))
      · rename_i hlt
        rw [hst, if_pos (.inr hlt)] at hf
        exact q_rnd (some x, priceF rs (membersL b)) ⟨fun m hm => (by cases hm; exact hx0.1), hf, hxr⟩ (by repeat' (first | exact slots_nil | apply slots_cons | rfl | (rw [map_snoc]; rfl) | (rw [len_snoc]; rfl) | (rw [hS]; rfl) | (rw [hS, map_snoc]; rfl) | (refine int_eq ?_; (try dsimp only); omega) | (refine congrArg AV.bool ?_; simp_all; done))) (by repeat' (first | exact kept_nil | apply kept_cons | rfl))
      · rename_i hlt
        rw [hst, if_neg (by simp; omega)] at hf
        exact q_rnd (some m0, c) ⟨hoa, hf, hxr⟩ (by repeat' (first | exact slots_nil | apply slots_cons | rfl | (rw [map_snoc]; rfl) | (rw [len_snoc]; rfl) | (rw [hS]; rfl) | (rw [hS, map_snoc]; rfl) | (refine int_eq ?_; (try dsimp only); omega) | (refine congrArg AV.bool ?_; simp_all; done))) (by repeat' (first | exact kept_nil | apply kept_cons | rfl))
  · rintro ⟨o, c⟩ ⟨hoa, hf, _⟩ σ'
    have hf' : bestB gs rs = (o, c) := hf
    rw [hbp, hf']
    cases o with
    | none =>
      repeat' (first
        | with_reducible (first | refine Rd.p ?_ | refine zE ?_ | refine zE0 ?_)
        | with_reducible (first | refine zI fun y hy => ?_ | refine zL ?_ | refine zS ?_ | refine zA fun _ => ?_ | refine zV ?_ | refine zC ?_ | refine zG ?_ | refine zU ?_ | refine zG0 ?_ | refine zU0 ?_ | refine zF ?_)
        | with_reducible (first | refine zX ?_ | refine zD fun _ => ?_ | refine zD0 ?_ | refine zN ?_ | refine zF0 ?_ | refine zX0 ?_ | refine z1 ?_ | refine z2 ?_ | refine z3 ?_ | refine z4 ?_ | refine z5 ?_ | refine z6 ?_ | refine z7 ?_ | refine z8 ?_ | refine y1 ?_ | refine y2 ?_ | refine y3 ?_ | refine y4 ?_ | refine y5 ?_ | refine y6 ?_ | refine y7 ?_ | refine y8 ?_ | refine Rt.p (fun _ => ?_) fun _ => ?_)
        | ((with_reducible apply w_ixM); (focus exact rfl); (focus exact rfl); case' hk => intro y hy) | ((with_reducible (first | apply w_val | apply q_ends)); (focus exact rfl)))
      rfl
    | some m0 =>
      have hm0 : iR m0 ≠ [] := by have := hoa m0 rfl; simpa using this
      repeat' (first
        | with_reducible (first | refine Rd.p ?_ | refine zE ?_ | refine zE0 ?_)
        | with_reducible (first | refine zI fun y hy => ?_ | refine zL ?_ | refine zS ?_ | refine zA fun _ => ?_)
        | ((with_reducible apply w_ixM); (focus exact rfl); (focus exact rfl); (focus ((repeat' (with_reducible (first | exact trivial | apply And.intro))) <;> (first | exact hm0 | exact sd))); case' hk => intro y hy) | ((with_reducible apply w_slM); (focus exact rfl); (focus exact rfl); (focus exact rfl); (focus ((repeat' (with_reducible (first | exact trivial | apply And.intro))) <;> (first | exact hm0 | exact sd)))) | ((with_reducible apply w_val); (focus exact rfl); (focus ((repeat' (with_reducible (first | exact trivial | apply And.intro))) <;> (first | exact hm0 | exact sd)))) | ((with_reducible apply w_det); (focus exact fun _ => rfl); (focus ((repeat' (with_reducible (first | exact trivial | apply And.intro))) <;> (first | exact hm0 | exact sd))); case' hk => intro _) | ((with_reducible apply w_det0); (focus exact fun _ => rfl); (focus ((repeat' (with_reducible (first | exact trivial | apply And.intro))) <;> (first | exact hm0 | exact sd)))) | ((with_reducible apply q_ends); (focus exact rfl); (focus ((repeat' (with_reducible (first | exact trivial | apply And.intro))) <;> (first | exact hm0 | exact sd))))
        | with_reducible (first | refine zI fun y hy => ?_ | refine zL ?_ | refine zS ?_ | refine zA fun _ => ?_ | refine zV ?_ | refine zC ?_ | refine zG ?_ | refine zU ?_ | refine zG0 ?_ | refine zU0 ?_ | refine zF ?_)
        | with_reducible (first | refine zX ?_ | refine zD fun _ => ?_ | refine zD0 ?_ | refine zN ?_ | refine zF0 ?_ | refine zX0 ?_ | refine z1 ?_ | refine z2 ?_ | refine z3 ?_ | refine z4 ?_ | refine z5 ?_ | refine z6 ?_ | refine z7 ?_ | refine z8 ?_ | refine y1 ?_ | refine y2 ?_ | refine y3 ?_ | refine y4 ?_ | refine y5 ?_ | refine y6 ?_ | refine y7 ?_ | refine y8 ?_ | refine Rt.p (fun _ => ?_) fun _ => ?_)
        | ((with_reducible apply w_ixM); (focus exact rfl); (focus exact rfl); case' hk => intro y hy) | ((with_reducible (first | apply w_val | apply q_ends)); (focus exact rfl)))
      rfl
end Go.Abs
