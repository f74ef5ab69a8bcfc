/- A part of the proofs of the laws of this seat: contracts of the functions that they reach, each proved of the program's form in Lean. No condition beyond those that each contract names. -/
import Derived.Test.YtajbhojompefoaaB0
import Derived.Test.YtajbhojompefoaaB9
import Derived.Test.YtajbhojompefoaaB8
import Derived.Test.YtajbhojompefoaaB2
set_option linter.unusedVariables false
set_option linter.unusedSimpArgs false
set_option maxRecDepth 20000
set_option maxHeartbeats 4000000
/-! ### What an order breaks -/
namespace Go.Abs
open Go.Proofs
/-- A valid rule, for so many guests. -/
structure rOK (r : Rule) (n : Int) : Prop where
  kind : 1 ≤ r.kind ∧ r.kind ≤ 6
  a : r.kind ≠ 6 → 0 ≤ r.a ∧ r.a < n
  b : r.kind ≤ 3 → 0 ≤ r.b ∧ r.b < n
  weight : 0 ≤ r.weight ∧ r.weight ≤ 1000
theorem rOK_of {r : Rule} {n : Int} (h : rErr r n = 0) : rOK r n := by
  unfold rErr at h
  split at h
  · rename_i hk
    have hk' := inB_t.1 hk
    have n1 : r.kind = 4 ∨ r.kind = 5 → nmV r.kind = 1 := fun h => by unfold nmV; rw [if_pos h]
    have n2 : r.kind ≤ 3 → nmV r.kind = 2 := fun h => by unfold nmV; rw [if_neg (by omega), if_neg (by omega)]
    split at h
    · rename_i h0
      split at h
      · rename_i h1
        split at h
        · cases h
        · split at h
          · rename_i hw
            refine ⟨hk', fun h6 => ?_, fun h3 => ?_, inB_t.1 hw⟩
            · have hn : 0 < nmV r.kind := by
                by_cases h45 : r.kind = 4 ∨ r.kind = 5
                · rw [n1 h45]; omega
                · rw [n2 (by omega)]; omega
              rw [argE, if_pos hn] at h0
              split at h0
              · rename_i h; have := inB_t.1 h; omega
              · cases h0
            · rw [argE, if_pos (by rw [n2 h3]; omega)] at h1
              split at h1
              · rename_i h; have := inB_t.1 h; omega
              · cases h1
          · cases h
      · rename_i h1; exact absurd h h1
    · rename_i h1; exact absurd h h1
  · cases h
/-- (aloeswood/seat.seated).keeps -/
def ir29 : IFn :=
  ⟨14, [(4, none)], (.seq (.ops [⟨(some 2), none, (.box 3 (.t 0))⟩,
    ⟨(some 3), none, (.box 4 (.t 1))⟩,
    ⟨(some 4), none, (.mov (.k (.bool false)))⟩])
  (.seq (.ops [⟨(some 6), none, (.bld [.nfn, .nfn, .nfn, .nfn, .nfn, .nfn, .nfn] [(1, 1, (.k (.clo (.func 38) [] []))), (2, 1, (.k (.clo (.func 39) [] []))), (3, 1, (.k (.clo (.func 40) [] []))), (4, 1, (.k (.clo (.func 41) [] []))), (5, 1, (.k (.clo (.func 42) [] []))), (6, 1, (.k (.clo (.func 43) [] [])))])⟩,
    ⟨(some 5), none, (.new [.nfn, .nfn, .nfn, .nfn, .nfn, .nfn, .nfn])⟩,
    ⟨none, none, (.st 7 (.t 5) (.t 6))⟩])
  (.seq (.ops [⟨(some 7), none, (.flA 0 (.t 3))⟩,
    ⟨(some 8), none, (.ld 1 false (.t 7))⟩,
    ⟨(some 9), none, (.ixAr 7 1 (.t 5) (.t 8))⟩,
    ⟨(some 10), none, (.ld 1 false (.t 9))⟩,
    ⟨(some 11), none, (.ld 3 true (.t 2))⟩,
    ⟨(some 12), none, (.ld 4 true (.t 3))⟩,
    ⟨(some 13), none, (.callV (.t 10) [(.t 11), (.t 12)])⟩,
    ⟨(some 4), none, (.mov (.t 13))⟩])
  .ret)))⟩
def hint29 (P : Program) : Hint := {}

/-- (aloeswood/seat.seated).broken -/
def ir22 : IFn :=
  ⟨25, [(2, none)], (.seq (.ops [⟨(some 1), none, (.box 3 (.t 0))⟩,
    ⟨(some 2), none, (.mov (.k (.int .i64 0)))⟩])
  (.seq (.ops [⟨(some 3), none, (.mov (.k (.int .i64 0)))⟩])
  (.seq (.seq (.ops [⟨(some 6), none, (.flA 0 (.t 1))⟩,
    ⟨(some 7), none, (.flA 1 (.t 6))⟩,
    ⟨(some 8), none, (.ld 1 false (.t 7))⟩,
    ⟨(some 9), none, (.len false (.t 8))⟩,
    ⟨(some 10), none, (.mov (.k (.int .i64 0)))⟩])
  (.blk 0 (.loop (.seq (.ops [⟨(some 11), none, (.bin .lss (.t 10) (.t 9))⟩])
      (.seq (.cnd (.t 11)
        .skip
        (.exit 0))
      (.seq (.blk 1 (.seq (.ops [⟨(some 12), none, (.mov (.t 10))⟩,
          ⟨(some 13), none, (.ixA 4 (.t 8) (.t 10))⟩,
          ⟨(some 14), none, (.ld 4 true (.t 13))⟩,
          ⟨(some 5), none, (.new [(.int .i64 0), (.int .i64 0), (.int .i64 0), (.int .i64 0)])⟩,
          ⟨(some 4), none, (.mov (.t 12))⟩,
          ⟨none, none, (.st 4 (.t 5) (.t 14))⟩])
        (.seq (.ops [⟨(some 15), none, (.ld 3 true (.t 1))⟩,
          ⟨(some 16), none, (.ld 4 true (.t 5))⟩,
          ⟨(some 17), none, (.callF 29 [(.t 15), (.t 16)])⟩,
          ⟨(some 18), none, (.not (.t 17))⟩])
        (.cnd (.t 18)
          (.ops [⟨(some 19), none, (.mov (.t 3))⟩,
            ⟨(some 20), none, (.mov (.t 4))⟩,
            ⟨(some 21), none, (.bin .shl (.k (.int .i64 1)) (.t 20))⟩,
            ⟨(some 22), none, (.bin .or (.t 19) (.t 21))⟩,
            ⟨(some 3), none, (.mov (.t 22))⟩])
          .skip))))
      (.ops [⟨(some 23), none, (.bin .add (.t 10) (.k (.int .i64 1)))⟩,
        ⟨(some 10), none, (.mov (.t 23))⟩])))))))
  (.seq (.ops [⟨(some 24), none, (.mov (.t 3))⟩,
    ⟨(some 2), none, (.mov (.t 24))⟩])
  .ret))))⟩
def hint22 (P : Program) : Hint := {}

/-- aloeswood/seat.strict -/
def ir33 : IFn :=
  ⟨23, [(2, none)], (.seq (.ops [⟨(some 1), none, (.box 2 (.t 0))⟩,
    ⟨(some 2), none, (.mov (.k (.int .i64 0)))⟩])
  (.seq (.ops [⟨(some 3), none, (.mov (.k (.int .i64 0)))⟩])
  (.seq (.seq (.ops [⟨(some 6), none, (.flA 1 (.t 1))⟩,
    ⟨(some 7), none, (.ld 1 false (.t 6))⟩,
    ⟨(some 8), none, (.len false (.t 7))⟩,
    ⟨(some 9), none, (.mov (.k (.int .i64 0)))⟩])
  (.blk 0 (.loop (.seq (.ops [⟨(some 10), none, (.bin .lss (.t 9) (.t 8))⟩])
      (.seq (.cnd (.t 10)
        .skip
        (.exit 0))
      (.seq (.blk 1 (.seq (.ops [⟨(some 11), none, (.mov (.t 9))⟩,
          ⟨(some 12), none, (.ixA 4 (.t 7) (.t 9))⟩,
          ⟨(some 13), none, (.ld 4 true (.t 12))⟩,
          ⟨(some 5), none, (.new [(.int .i64 0), (.int .i64 0), (.int .i64 0), (.int .i64 0)])⟩,
          ⟨(some 4), none, (.mov (.t 11))⟩,
          ⟨none, none, (.st 4 (.t 5) (.t 13))⟩])
        (.seq (.ops [⟨(some 14), none, (.flA 3 (.t 5))⟩,
          ⟨(some 15), none, (.ld 1 false (.t 14))⟩,
          ⟨(some 16), none, (.bin .eql (.t 15) (.k (.int .i64 0)))⟩])
        (.cnd (.t 16)
          (.ops [⟨(some 17), none, (.mov (.t 3))⟩,
            ⟨(some 18), none, (.mov (.t 4))⟩,
            ⟨(some 19), none, (.bin .shl (.k (.int .i64 1)) (.t 18))⟩,
            ⟨(some 20), none, (.bin .or (.t 17) (.t 19))⟩,
            ⟨(some 3), none, (.mov (.t 20))⟩])
          .skip))))
      (.ops [⟨(some 21), none, (.bin .add (.t 9) (.k (.int .i64 1)))⟩,
        ⟨(some 9), none, (.mov (.t 21))⟩])))))))
  (.seq (.ops [⟨(some 22), none, (.mov (.t 3))⟩,
    ⟨(some 2), none, (.mov (.t 22))⟩])
  .ret))))⟩
def hint33 (P : Program) : Hint := {}

/-- aloeswood/seat.price -/
def ir24 : IFn :=
  ⟨26, [(4, none)], (.seq (.ops [⟨(some 2), none, (.box 2 (.t 0))⟩,
    ⟨(some 4), none, (.mov (.k (.int .i64 0)))⟩])
  (.seq (.ops [⟨(some 5), none, (.mov (.k (.int .i64 0)))⟩])
  (.seq (.seq (.ops [⟨(some 8), none, (.mov (.t 1))⟩,
    ⟨(some 9), none, (.callF 23 [(.t 8)])⟩,
    ⟨(some 10), none, (.len false (.t 9))⟩,
    ⟨(some 11), none, (.mov (.k (.int .i64 0)))⟩])
  (.blk 0 (.loop (.seq (.ops [⟨(some 12), none, (.bin .lss (.t 11) (.t 10))⟩])
      (.seq (.cnd (.t 12)
        .skip
        (.exit 0))
      (.seq (.blk 1 (.seq (.ops [⟨(some 13), none, (.ixA 1 (.t 9) (.t 11))⟩,
          ⟨(some 14), none, (.ld 1 false (.t 13))⟩,
          ⟨(some 7), none, (.mov (.t 14))⟩])
        (.ops [⟨(some 15), none, (.mov (.t 5))⟩,
          ⟨(some 16), none, (.flA 1 (.t 2))⟩,
          ⟨(some 17), none, (.ld 1 false (.t 16))⟩,
          ⟨(some 18), none, (.mov (.t 7))⟩,
          ⟨(some 19), none, (.ixA 4 (.t 17) (.t 18))⟩,
          ⟨(some 20), none, (.flA 3 (.t 19))⟩,
          ⟨(some 21), none, (.ld 1 false (.t 20))⟩,
          ⟨(some 22), none, (.bsl 1 [[(.int .i64 0)], [(.int .i64 0)]] [(0, (.t 15)), (1, (.t 21))])⟩,
          ⟨(some 23), none, (.callF 30 [(.t 22)])⟩,
          ⟨(some 5), none, (.mov (.t 23))⟩])))
      (.ops [⟨(some 24), none, (.bin .add (.t 11) (.k (.int .i64 1)))⟩,
        ⟨(some 11), none, (.mov (.t 24))⟩])))))))
  (.seq (.ops [⟨(some 25), none, (.mov (.t 5))⟩,
    ⟨(some 4), none, (.mov (.t 25))⟩])
  .ret))))⟩
def hint24 (P : Program) : Hint := {}

theorem keeps_c (gs : List Guest) (rs : List Rule) (xs : List Int) (r : Rule) (hr : rOK r xs.length) (hx : xs.length = gs.length) (hx0 : xs.length < 1000) (hv : ∀ v ∈ xs, 0 ≤ v ∧ v < 1000) :
    Fn0 Try.prog 29 [sA gs rs xs, rA r] (fun v => v = .bool (keepsB gs xs r)) := by
  obtain ⟨k, a, b, wt⟩ := r
  have hk := hr.kind
  have ha := hr.a
  have hb := hr.b
  dsimp only at hk ha hb
  have h0 : k = 1 ∨ k = 2 ∨ k = 3 ∨ k = 4 ∨ k = 5 ∨ k = 6 := by omega
  rcases h0 with rfl | rfl | rfl | rfl | rfl | rfl
  · refine RawC.walk (H := hint29 Try.prog) ir29 Try.func29 rfl rfl rfl ?_
    unfold ir29
    repeat' (first
      | with_reducible (first | refine Rd.p ?_ | refine zE ?_ | refine zE0 ?_)
      | with_reducible (first | refine zI fun y hy => ?_ | refine zL ?_ | refine zS ?_ | refine zA fun _ => ?_ | refine zV ?_ | refine zC ?_ | refine zG ?_ | refine zU ?_ | refine zG0 ?_ | refine zU0 ?_ | refine zF ?_)
      | ((with_reducible refine acall_id ?_); refine ACall.val (before_c gs rs xs ⟨1, a, b, wt⟩ (ha (by omega)) (hb (by omega))) rfl rfl ?_)
      | with_reducible (first | refine zX ?_ | refine zD fun _ => ?_ | refine zD0 ?_ | refine zN ?_ | refine zF0 ?_ | refine zX0 ?_ | refine z1 ?_ | refine z2 ?_ | refine z3 ?_ | refine z4 ?_ | refine z5 ?_ | refine z6 ?_ | refine z7 ?_ | refine z8 ?_ | refine y1 ?_ | refine y2 ?_ | refine y3 ?_ | refine y4 ?_ | refine y5 ?_ | refine y6 ?_ | refine y7 ?_ | refine y8 ?_ | refine Rt.p (fun _ => ?_) fun _ => ?_)
      | ((with_reducible apply w_ixM); (focus exact rfl); (focus exact rfl); case' hk => intro y hy) | ((with_reducible (first | apply w_val | apply q_ends)); (focus exact rfl)))
    rfl
  · refine RawC.walk (H := hint29 Try.prog) ir29 Try.func29 rfl rfl rfl ?_
    unfold ir29
    repeat' (first
      | with_reducible (first | refine Rd.p ?_ | refine zE ?_ | refine zE0 ?_)
      | with_reducible (first | refine zI fun y hy => ?_ | refine zL ?_ | refine zS ?_ | refine zA fun _ => ?_ | refine zV ?_ | refine zC ?_ | refine zG ?_ | refine zU ?_ | refine zG0 ?_ | refine zU0 ?_ | refine zF ?_)
      | ((with_reducible refine acall_id ?_); refine ACall.val (beside_c gs rs xs ⟨2, a, b, wt⟩ (ha (by omega)) (hb (by omega)) hv) rfl rfl ?_)
      | with_reducible (first | refine zX ?_ | refine zD fun _ => ?_ | refine zD0 ?_ | refine zN ?_ | refine zF0 ?_ | refine zX0 ?_ | refine z1 ?_ | refine z2 ?_ | refine z3 ?_ | refine z4 ?_ | refine z5 ?_ | refine z6 ?_ | refine z7 ?_ | refine z8 ?_ | refine y1 ?_ | refine y2 ?_ | refine y3 ?_ | refine y4 ?_ | refine y5 ?_ | refine y6 ?_ | refine y7 ?_ | refine y8 ?_ | refine Rt.p (fun _ => ?_) fun _ => ?_)
      | ((with_reducible apply w_ixM); (focus exact rfl); (focus exact rfl); case' hk => intro y hy) | ((with_reducible (first | apply w_val | apply q_ends)); (focus exact rfl)))
    rfl
  · refine RawC.walk (H := hint29 Try.prog) ir29 Try.func29 rfl rfl rfl ?_
    unfold ir29
    repeat' (first
      | with_reducible (first | refine Rd.p ?_ | refine zE ?_ | refine zE0 ?_)
      | with_reducible (first | refine zI fun y hy => ?_ | refine zL ?_ | refine zS ?_ | refine zA fun _ => ?_ | refine zV ?_ | refine zC ?_ | refine zG ?_ | refine zU ?_ | refine zG0 ?_ | refine zU0 ?_ | refine zF ?_)
      | ((with_reducible refine acall_id ?_); refine ACall.val (apart_c gs rs xs ⟨3, a, b, wt⟩ (ha (by omega)) (hb (by omega)) hv) rfl rfl ?_)
      | with_reducible (first | refine zX ?_ | refine zD fun _ => ?_ | refine zD0 ?_ | refine zN ?_ | refine zF0 ?_ | refine zX0 ?_ | refine z1 ?_ | refine z2 ?_ | refine z3 ?_ | refine z4 ?_ | refine z5 ?_ | refine z6 ?_ | refine z7 ?_ | refine z8 ?_ | refine y1 ?_ | refine y2 ?_ | refine y3 ?_ | refine y4 ?_ | refine y5 ?_ | refine y6 ?_ | refine y7 ?_ | refine y8 ?_ | refine Rt.p (fun _ => ?_) fun _ => ?_)
      | ((with_reducible apply w_ixM); (focus exact rfl); (focus exact rfl); case' hk => intro y hy) | ((with_reducible (first | apply w_val | apply q_ends)); (focus exact rfl)))
    rfl
  · refine RawC.walk (H := hint29 Try.prog) ir29 Try.func29 rfl rfl rfl ?_
    unfold ir29
    repeat' (first
      | with_reducible (first | refine Rd.p ?_ | refine zE ?_ | refine zE0 ?_)
      | with_reducible (first | refine zI fun y hy => ?_ | refine zL ?_ | refine zS ?_ | refine zA fun _ => ?_ | refine zV ?_ | refine zC ?_ | refine zG ?_ | refine zU ?_ | refine zG0 ?_ | refine zU0 ?_ | refine zF ?_)
      | ((with_reducible refine acall_id ?_); refine ACall.val (first_c gs rs xs ⟨4, a, b, wt⟩ (ha (by omega))) rfl rfl ?_)
      | with_reducible (first | refine zX ?_ | refine zD fun _ => ?_ | refine zD0 ?_ | refine zN ?_ | refine zF0 ?_ | refine zX0 ?_ | refine z1 ?_ | refine z2 ?_ | refine z3 ?_ | refine z4 ?_ | refine z5 ?_ | refine z6 ?_ | refine z7 ?_ | refine z8 ?_ | refine y1 ?_ | refine y2 ?_ | refine y3 ?_ | refine y4 ?_ | refine y5 ?_ | refine y6 ?_ | refine y7 ?_ | refine y8 ?_ | refine Rt.p (fun _ => ?_) fun _ => ?_)
      | ((with_reducible apply w_ixM); (focus exact rfl); (focus exact rfl); case' hk => intro y hy) | ((with_reducible (first | apply w_val | apply q_ends)); (focus exact rfl)))
    rfl
  · refine RawC.walk (H := hint29 Try.prog) ir29 Try.func29 rfl rfl rfl ?_
    unfold ir29
    repeat' (first
      | with_reducible (first | refine Rd.p ?_ | refine zE ?_ | refine zE0 ?_)
      | with_reducible (first | refine zI fun y hy => ?_ | refine zL ?_ | refine zS ?_ | refine zA fun _ => ?_ | refine zV ?_ | refine zC ?_ | refine zG ?_ | refine zU ?_ | refine zG0 ?_ | refine zU0 ?_ | refine zF ?_)
      | ((with_reducible refine acall_id ?_); refine ACall.val (last_c gs rs xs ⟨5, a, b, wt⟩ (ha (by omega)) hx0) rfl rfl ?_)
      | with_reducible (first | refine zX ?_ | refine zD fun _ => ?_ | refine zD0 ?_ | refine zN ?_ | refine zF0 ?_ | refine zX0 ?_ | refine z1 ?_ | refine z2 ?_ | refine z3 ?_ | refine z4 ?_ | refine z5 ?_ | refine z6 ?_ | refine z7 ?_ | refine z8 ?_ | refine y1 ?_ | refine y2 ?_ | refine y3 ?_ | refine y4 ?_ | refine y5 ?_ | refine y6 ?_ | refine y7 ?_ | refine y8 ?_ | refine Rt.p (fun _ => ?_) fun _ => ?_)
      | ((with_reducible apply w_ixM); (focus exact rfl); (focus exact rfl); case' hk => intro y hy) | ((with_reducible (first | apply w_val | apply q_ends)); (focus exact rfl)))
    rfl
  · refine RawC.walk (H := hint29 Try.prog) ir29 Try.func29 rfl rfl rfl ?_
    unfold ir29
    repeat' (first
      | with_reducible (first | refine Rd.p ?_ | refine zE ?_ | refine zE0 ?_)
      | with_reducible (first | refine zI fun y hy => ?_ | refine zL ?_ | refine zS ?_ | refine zA fun _ => ?_ | refine zV ?_ | refine zC ?_ | refine zG ?_ | refine zU ?_ | refine zG0 ?_ | refine zU0 ?_ | refine zF ?_)
      | ((with_reducible refine acall_id ?_); refine ACall.val (rank_c gs rs xs ⟨6, a, b, wt⟩ hx hx0) rfl rfl ?_)
      | with_reducible (first | refine zX ?_ | refine zD fun _ => ?_ | refine zD0 ?_ | refine zN ?_ | refine zF0 ?_ | refine zX0 ?_ | refine z1 ?_ | refine z2 ?_ | refine z3 ?_ | refine z4 ?_ | refine z5 ?_ | refine z6 ?_ | refine z7 ?_ | refine z8 ?_ | refine y1 ?_ | refine y2 ?_ | refine y3 ?_ | refine y4 ?_ | refine y5 ?_ | refine y6 ?_ | refine y7 ?_ | refine y8 ?_ | refine Rt.p (fun _ => ?_) fun _ => ?_)
      | ((with_reducible apply w_ixM); (focus exact rfl); (focus exact rfl); case' hk => intro y hy) | ((with_reducible (first | apply w_val | apply q_ends)); (focus exact rfl)))
    rfl
/-- The rules of a kind, one bit each. -/
def bitsF (p : Rule → Bool) : Nat → List Rule → Nat
  | _, [] => 0
  | i, r :: rs => (if p r = true then 2 ^ i else 0) ||| bitsF p (i + 1) rs
theorem bitsF_lt (p : Rule → Bool) : ∀ (i : Nat) (rs : List Rule) (n : Nat), i + rs.length ≤ n → bitsF p i rs < 2 ^ n
  | i, [], n, h => by simp [bitsF, Nat.pow_pos]
  | i, r :: rs, n, h => by
    simp only [List.length_cons] at h
    refine Nat.or_lt_two_pow ?_ (bitsF_lt p (i + 1) rs n (by omega))
    split
    · exact Nat.pow_lt_pow_right (by omega) (by omega)
    · exact Nat.pow_pos (by omega)
theorem shl_one (i : Nat) (h : i < 60) : (1 : Int) * 2 ^ min ((i : Int)).toNat IntKind.i64.bits = ((2 ^ i : Nat) : Int) := by
  have : min ((i : Int)).toNat IntKind.i64.bits = i := by simp [IntKind.bits]; omega
  rw [this]; simp
theorem pow_bd (i : Nat) (h : i < 60) : 2 ^ i ≤ 2 ^ 59 := Nat.pow_le_pow_right (by omega) (by omega)
theorem broken_c (gs : List Guest) (rs : List Rule) (xs : List Int) (hr : ∀ r ∈ rs, rOK r xs.length) (hx : xs.length = gs.length) (hx0 : xs.length < 1000) (hv : ∀ v ∈ xs, 0 ≤ v ∧ v < 1000) (hrs : rs.length ≤ 12) :
    Fn0 Try.prog 22 [sA gs rs xs] (fun v => v = .int .i64 (bitsF (fun r => !keepsB gs xs r) 0 rs)) := by
  refine RawC.walk (H := hint22 Try.prog) ir22 Try.func22 rfl rfl rfl ?_
  unfold ir22
  repeat' (first
    | with_reducible (first | refine Rd.p ?_ | refine zE ?_ | refine zE0 ?_)
    | with_reducible (first | refine zI fun y hy => ?_ | refine zL ?_ | refine zS ?_ | refine zA fun _ => ?_ | refine zV ?_ | refine zC ?_ | refine zG ?_ | refine zU ?_ | refine zG0 ?_ | refine zU0 ?_ | refine zF ?_)
    | with_reducible (first | refine zX ?_ | refine zD fun _ => ?_ | refine zD0 ?_ | refine zN ?_ | refine zF0 ?_ | refine zX0 ?_ | refine z1 ?_ | refine z2 ?_ | refine z3 ?_ | refine z4 ?_ | refine z5 ?_ | refine z6 ?_ | refine z7 ?_ | refine z8 ?_ | refine y1 ?_ | refine y2 ?_ | refine y3 ?_ | refine y4 ?_ | refine y5 ?_ | refine y6 ?_ | refine y7 ?_ | refine y8 ?_ | refine Rt.p (fun _ => ?_) fun _ => ?_)
    | ((with_reducible apply w_ixM); (focus exact rfl); (focus exact rfl); case' hk => intro y hy) | ((with_reducible (first | apply w_val | apply q_ends)); (focus exact rfl)))
  refine w_loopK [1, 8, 9] [1] (fun x : List Rule × List Rule × Nat => rs = x.1 ++ x.2.1 ∧ x.2.2 < 2 ^ 12 ∧ bitsF (fun r => !keepsB gs xs r) 0 rs = x.2.2 ||| bitsF (fun r => !keepsB gs xs r) x.1.length x.2.1) (fun x => x.2.1.length) (fun x => [(10, .int .i64 x.1.length), (3, .int .i64 x.2.2)]) (fun _ => []) ([], rs, 0) ⟨rfl, by dsimp only; exact Nat.pow_pos (by omega), by simp⟩ ⟨rfl, rfl, trivial⟩ trivial ?_
  rintro ⟨pre, post, acc⟩ ⟨hl, ha, hb⟩ e σ
  dsimp only at hl ha hb ⊢
  have hlen := congrArg List.length hl
  cases post with
  | nil =>
    simp only [List.append_nil, List.length_append, List.length_nil] at hlen
    repeat' (first
      | with_reducible (first | refine Rd.p ?_ | refine zE ?_ | refine zE0 ?_)
      | with_reducible (first | refine zI fun y hy => ?_ | refine zL ?_ | refine zS ?_ | refine zA fun _ => ?_ | refine zV ?_ | refine zC ?_ | refine zG ?_ | refine zU ?_ | refine zG0 ?_ | refine zU0 ?_ | refine zF ?_)
      | with_reducible (first | refine zX ?_ | refine zD fun _ => ?_ | refine zD0 ?_ | refine zN ?_ | refine zF0 ?_ | refine zX0 ?_ | refine z1 ?_ | refine z2 ?_ | refine z3 ?_ | refine z4 ?_ | refine z5 ?_ | refine z6 ?_ | refine z7 ?_ | refine z8 ?_ | refine y1 ?_ | refine y2 ?_ | refine y3 ?_ | refine y4 ?_ | refine y5 ?_ | refine y6 ?_ | refine y7 ?_ | refine y8 ?_ | refine Rt.p (fun _ => ?_) fun _ => ?_)
      | ((with_reducible apply w_ixM); (focus exact rfl); (focus exact rfl); case' hk => intro y hy) | ((with_reducible (first | apply w_val | apply q_ends)); (focus exact rfl)))
    rw [hb]; simp [bitsF, tupV, untag]
  | cons r post =>
    simp only [List.length_append, List.length_cons] at hlen
    simp only [bitsF] at hb
    have hs := shl_one pre.length (by omega)
    have hp := pow_bd pre.length (by omega)
    have hin : inI ((2 ^ pre.length : Nat) : Int) := by unfold inI; generalize 2 ^ pre.length = q at hp ⊢; omega
    have hpl : (2 : Nat) ^ pre.length < 2 ^ 12 := Nat.pow_lt_pow_right (by omega) (by omega)
    have hor := or_nat acc (2 ^ pre.length) (by omega) (by omega)
    repeat' (first
      | with_reducible (first | refine Rd.p ?_ | refine zE ?_ | refine zE0 ?_)
      | (refine w_ixP hl rfl rfl ?_)
      | with_reducible (first | refine zI fun y hy => ?_ | refine zL ?_ | refine zS ?_ | refine zA fun _ => ?_)
      | ((with_reducible apply w_ixM); (focus exact rfl); (focus exact rfl); (focus ((repeat' (with_reducible (first | exact trivial | apply And.intro))) <;> (first | (rw [hs]; exact hin) | exact sd))); case' hk => intro y hy) | ((with_reducible apply w_slM); (focus exact rfl); (focus exact rfl); (focus exact rfl); (focus ((repeat' (with_reducible (first | exact trivial | apply And.intro))) <;> (first | (rw [hs]; exact hin) | exact sd)))) | ((with_reducible apply w_val); (focus exact rfl); (focus ((repeat' (with_reducible (first | exact trivial | apply And.intro))) <;> (first | (rw [hs]; exact hin) | exact sd)))) | ((with_reducible apply w_det); (focus exact fun _ => rfl); (focus ((repeat' (with_reducible (first | exact trivial | apply And.intro))) <;> (first | (rw [hs]; exact hin) | exact sd))); case' hk => intro _) | ((with_reducible apply w_det0); (focus exact fun _ => rfl); (focus ((repeat' (with_reducible (first | exact trivial | apply And.intro))) <;> (first | (rw [hs]; exact hin) | exact sd)))) | ((with_reducible apply q_ends); (focus exact rfl); (focus ((repeat' (with_reducible (first | exact trivial | apply And.intro))) <;> (first | (rw [hs]; exact hin) | exact sd))))
      | with_reducible (first | refine zI fun y hy => ?_ | refine zL ?_ | refine zS ?_ | refine zA fun _ => ?_ | refine zV ?_ | refine zC ?_ | refine zG ?_ | refine zU ?_ | refine zG0 ?_ | refine zU0 ?_ | refine zF ?_)
      | ((with_reducible refine acall_id ?_); refine ACall.val (keeps_c gs rs xs r (hr r (by rw [hl]; simp)) hx hx0 hv) rfl rfl ?_)
      | with_reducible (first | refine zX ?_ | refine zD fun _ => ?_ | refine zD0 ?_ | refine zN ?_ | refine zF0 ?_ | refine zX0 ?_ | refine z1 ?_ | refine z2 ?_ | refine z3 ?_ | refine z4 ?_ | refine z5 ?_ | refine z6 ?_ | refine z7 ?_ | refine z8 ?_ | refine y1 ?_ | refine y2 ?_ | refine y3 ?_ | refine y4 ?_ | refine y5 ?_ | refine y6 ?_ | refine y7 ?_ | refine y8 ?_ | refine Rt.p (fun _ => ?_) fun _ => ?_)
      | ((with_reducible apply w_ixM); (focus exact rfl); (focus exact rfl); case' hk => intro y hy) | ((with_reducible (first | apply w_val | apply q_ends)); (focus exact rfl)))
    · rename_i h
      rw [if_pos (by simp [h])] at hb
      have hor' := hor
      rw [← hs] at hor'
      have hS := hor'
      refine zQ (pre ++ [r], post, acc ||| 2 ^ pre.length) ?_ ?_
      · exact ⟨by rw [hl]; simp, Nat.or_lt_two_pow ha hpl, by rw [hb, len_snoc, Nat.or_assoc]⟩
      · simp
    · rename_i h
      rw [if_neg (by simp [h]), Nat.zero_or] at hb
      refine zQ (pre ++ [r], post, acc) ?_ ?_
      · exact ⟨by rw [hl]; simp, ha, by rw [hb, len_snoc]⟩
      · simp
theorem strict_c (gs : List Guest) (rs : List Rule) (hrs : rs.length ≤ 12) : Fn0 Try.prog 33 [pA gs rs] (fun v => v = .int .i64 (bitsF (fun r => decide (r.weight = 0)) 0 rs)) := by
  refine RawC.walk (H := hint33 Try.prog) ir33 Try.func33 rfl rfl rfl ?_
  unfold ir33
  repeat' (first
    | with_reducible (first | refine Rd.p ?_ | refine zE ?_ | refine zE0 ?_)
    | with_reducible (first | refine zI fun y hy => ?_ | refine zL ?_ | refine zS ?_ | refine zA fun _ => ?_ | refine zV ?_ | refine zC ?_ | refine zG ?_ | refine zU ?_ | refine zG0 ?_ | refine zU0 ?_ | refine zF ?_)
    | with_reducible (first | refine zX ?_ | refine zD fun _ => ?_ | refine zD0 ?_ | refine zN ?_ | refine zF0 ?_ | refine zX0 ?_ | refine z1 ?_ | refine z2 ?_ | refine z3 ?_ | refine z4 ?_ | refine z5 ?_ | refine z6 ?_ | refine z7 ?_ | refine z8 ?_ | refine y1 ?_ | refine y2 ?_ | refine y3 ?_ | refine y4 ?_ | refine y5 ?_ | refine y6 ?_ | refine y7 ?_ | refine y8 ?_ | refine Rt.p (fun _ => ?_) fun _ => ?_)
    | ((with_reducible apply w_ixM); (focus exact rfl); (focus exact rfl); case' hk => intro y hy) | ((with_reducible (first | apply w_val | apply q_ends)); (focus exact rfl)))
  refine w_loopK [7, 8] [1] (fun x : List Rule × List Rule × Nat => rs = x.1 ++ x.2.1 ∧ x.2.2 < 2 ^ 12 ∧ bitsF (fun r => decide (r.weight = 0)) 0 rs = x.2.2 ||| bitsF (fun r => decide (r.weight = 0)) x.1.length x.2.1) (fun x => x.2.1.length) (fun x => [(9, .int .i64 x.1.length), (3, .int .i64 x.2.2)]) (fun _ => []) ([], rs, 0) ⟨rfl, by dsimp only; exact Nat.pow_pos (by omega), by simp⟩ ⟨rfl, rfl, trivial⟩ trivial ?_
  rintro ⟨pre, post, acc⟩ ⟨hl, ha, hb⟩ e σ
  dsimp only at hl ha hb ⊢
  have hlen := congrArg List.length hl
  cases post with
  | nil =>
    simp only [List.append_nil, List.length_append, List.length_nil] at hlen
    repeat' (first
      | with_reducible (first | refine Rd.p ?_ | refine zE ?_ | refine zE0 ?_)
      | with_reducible (first | refine zI fun y hy => ?_ | refine zL ?_ | refine zS ?_ | refine zA fun _ => ?_ | refine zV ?_ | refine zC ?_ | refine zG ?_ | refine zU ?_ | refine zG0 ?_ | refine zU0 ?_ | refine zF ?_)
      | with_reducible (first | refine zX ?_ | refine zD fun _ => ?_ | refine zD0 ?_ | refine zN ?_ | refine zF0 ?_ | refine zX0 ?_ | refine z1 ?_ | refine z2 ?_ | refine z3 ?_ | refine z4 ?_ | refine z5 ?_ | refine z6 ?_ | refine z7 ?_ | refine z8 ?_ | refine y1 ?_ | refine y2 ?_ | refine y3 ?_ | refine y4 ?_ | refine y5 ?_ | refine y6 ?_ | refine y7 ?_ | refine y8 ?_ | refine Rt.p (fun _ => ?_) fun _ => ?_)
      | ((with_reducible apply w_ixM); (focus exact rfl); (focus exact rfl); case' hk => intro y hy) | ((with_reducible (first | apply w_val | apply q_ends)); (focus exact rfl)))
    rw [hb]; simp [bitsF, tupV, untag]
  | cons r post =>
    simp only [List.length_append, List.length_cons] at hlen
    simp only [bitsF] at hb
    have hs := shl_one pre.length (by omega)
    have hp := pow_bd pre.length (by omega)
    have hin : inI ((2 ^ pre.length : Nat) : Int) := by unfold inI; generalize 2 ^ pre.length = q at hp ⊢; omega
    have hpl : (2 : Nat) ^ pre.length < 2 ^ 12 := Nat.pow_lt_pow_right (by omega) (by omega)
    have hor := or_nat acc (2 ^ pre.length) (by omega) (by omega)
    repeat' (first
      | with_reducible (first | refine Rd.p ?_ | refine zE ?_ | refine zE0 ?_)
      | (refine w_ixP hl rfl rfl ?_)
      | with_reducible (first | refine zI fun y hy => ?_ | refine zL ?_ | refine zS ?_ | refine zA fun _ => ?_)
      | ((with_reducible apply w_ixM); (focus exact rfl); (focus exact rfl); (focus ((repeat' (with_reducible (first | exact trivial | apply And.intro))) <;> (first | (rw [hs]; exact hin) | exact sd))); case' hk => intro y hy) | ((with_reducible apply w_slM); (focus exact rfl); (focus exact rfl); (focus exact rfl); (focus ((repeat' (with_reducible (first | exact trivial | apply And.intro))) <;> (first | (rw [hs]; exact hin) | exact sd)))) | ((with_reducible apply w_val); (focus exact rfl); (focus ((repeat' (with_reducible (first | exact trivial | apply And.intro))) <;> (first | (rw [hs]; exact hin) | exact sd)))) | ((with_reducible apply w_det); (focus exact fun _ => rfl); (focus ((repeat' (with_reducible (first | exact trivial | apply And.intro))) <;> (first | (rw [hs]; exact hin) | exact sd))); case' hk => intro _) | ((with_reducible apply w_det0); (focus exact fun _ => rfl); (focus ((repeat' (with_reducible (first | exact trivial | apply And.intro))) <;> (first | (rw [hs]; exact hin) | exact sd)))) | ((with_reducible apply q_ends); (focus exact rfl); (focus ((repeat' (with_reducible (first | exact trivial | apply And.intro))) <;> (first | (rw [hs]; exact hin) | exact sd))))
      | with_reducible (first | refine zI fun y hy => ?_ | refine zL ?_ | refine zS ?_ | refine zA fun _ => ?_ | refine zV ?_ | refine zC ?_ | refine zG ?_ | refine zU ?_ | refine zG0 ?_ | refine zU0 ?_ | refine zF ?_)
      | with_reducible (first | refine zX ?_ | refine zD fun _ => ?_ | refine zD0 ?_ | refine zN ?_ | refine zF0 ?_ | refine zX0 ?_ | refine z1 ?_ | refine z2 ?_ | refine z3 ?_ | refine z4 ?_ | refine z5 ?_ | refine z6 ?_ | refine z7 ?_ | refine z8 ?_ | refine y1 ?_ | refine y2 ?_ | refine y3 ?_ | refine y4 ?_ | refine y5 ?_ | refine y6 ?_ | refine y7 ?_ | refine y8 ?_ | refine Rt.p (fun _ => ?_) fun _ => ?_)
      | ((with_reducible apply w_ixM); (focus exact rfl); (focus exact rfl); case' hk => intro y hy) | ((with_reducible (first | apply w_val | apply q_ends)); (focus exact rfl)))
    · rename_i h
      rw [if_pos (by simp [h])] at hb
      have hor' := hor
      rw [← hs] at hor'
      have hS := hor'
      refine zQ (pre ++ [r], post, acc ||| 2 ^ pre.length) ?_ ?_
      · exact ⟨by rw [hl]; simp, Nat.or_lt_two_pow ha hpl, by rw [hb, len_snoc, Nat.or_assoc]⟩
      · simp
    · rename_i h
      rw [if_neg (by simp [h]), Nat.zero_or] at hb
      refine zQ (pre ++ [r], post, acc) ?_ ?_
      · exact ⟨by rw [hl]; simp, ha, by rw [hb, len_snoc]⟩
      · simp
end Go.Abs
