/- A part of the proofs of the laws of this seat: contracts of the functions that they reach, each proved of the program's form in Lean. No condition beyond those that each contract names. -/
import Derived.Test.YtmekfgjlcaonjaaB0
set_option linter.unusedVariables false
set_option linter.unusedSimpArgs false
set_option maxRecDepth 20000
set_option maxHeartbeats 4000000
/-! ### The box's methods -/
namespace Go.Abs
open Go.Proofs
/-- (*aloeswood/aloeswoodkit.Box).turn -/
def ir73 : IFn :=
  ⟨30, [(2, none)], (.seq (.ops [⟨(some 2), none, (.mov (.k (.int .u64 0)))⟩])
  (.seq (.ops [⟨(some 4), none, (.mov (.t 0))⟩,
    ⟨(some 5), none, (.mov (.t 0))⟩,
    ⟨(some 6), none, (.nck (.t 5))⟩,
    ⟨(some 7), none, (.flA 0 (.t 6))⟩,
    ⟨(some 8), none, (.ld 1 false (.t 7))⟩,
    ⟨(some 9), none, (.bin .add (.t 8) (.k (.int .u64 11507291218515648293)))⟩,
    ⟨(some 10), none, (.nck (.t 4))⟩,
    ⟨(some 11), none, (.flA 0 (.t 10))⟩,
    ⟨none, none, (.st 1 (.t 11) (.t 9))⟩])
  (.seq (.ops [⟨(some 12), none, (.mov (.t 0))⟩,
    ⟨(some 13), none, (.nck (.t 12))⟩,
    ⟨(some 14), none, (.flA 0 (.t 13))⟩,
    ⟨(some 15), none, (.ld 1 false (.t 14))⟩,
    ⟨(some 3), none, (.mov (.t 15))⟩])
  (.seq (.ops [⟨(some 16), none, (.mov (.t 3))⟩,
    ⟨(some 17), none, (.mov (.t 3))⟩,
    ⟨(some 18), none, (.bin .shr (.t 17) (.k (.int .u64 32)))⟩,
    ⟨(some 19), none, (.bin .xor (.t 16) (.t 18))⟩,
    ⟨(some 20), none, (.bin .mul (.t 19) (.k (.int .u64 15485907386658061715)))⟩,
    ⟨(some 3), none, (.mov (.t 20))⟩])
  (.seq (.ops [⟨(some 21), none, (.mov (.t 3))⟩,
    ⟨(some 22), none, (.mov (.t 3))⟩,
    ⟨(some 23), none, (.bin .shr (.t 22) (.k (.int .u64 29)))⟩,
    ⟨(some 24), none, (.bin .xor (.t 21) (.t 23))⟩,
    ⟨(some 25), none, (.bin .mul (.t 24) (.k (.int .u64 14029467366897019727)))⟩,
    ⟨(some 3), none, (.mov (.t 25))⟩])
  (.seq (.ops [⟨(some 26), none, (.mov (.t 3))⟩,
    ⟨(some 27), none, (.mov (.t 3))⟩,
    ⟨(some 28), none, (.bin .shr (.t 27) (.k (.int .u64 32)))⟩,
    ⟨(some 29), none, (.bin .xor (.t 26) (.t 28))⟩,
    ⟨(some 2), none, (.mov (.t 29))⟩])
  .ret))))))⟩
def hint73 (P : Program) : Hint := {}

/-- aloeswood/aloeswoodkit.BoxOf -/
def ir17 : IFn :=
  ⟨30, [(2, none)], (.seq (.ops [⟨(some 2), none, (.mov (.k .npt))⟩])
  (.seq (.ops [⟨(some 5), none, (.bld [(.int .u64 0)] [(0, 1, (.k (.int .u64 2685821657736338717)))])⟩,
    ⟨(some 6), none, (.box 1 (.t 5))⟩,
    ⟨(some 3), none, (.mov (.t 6))⟩])
  (.seq (.seq (.ops [⟨(some 4), none, (.mov (.k (.int .i64 0)))⟩])
  (.blk 0 (.loop (.seq (.seq (.ops [⟨(some 7), none, (.mov (.t 4))⟩,
        ⟨(some 8), none, (.mov (.t 0))⟩,
        ⟨(some 9), none, (.len false (.t 8))⟩,
        ⟨(some 10), none, (.bin .lss (.t 7) (.t 9))⟩])
      (.cnd (.t 10)
        .skip
        (.exit 0)))
      (.seq (.blk 1 (.seq (.ops [⟨(some 13), none, (.mov (.t 3))⟩,
          ⟨(some 14), none, (.mov (.t 3))⟩,
          ⟨(some 15), none, (.nck (.t 14))⟩,
          ⟨(some 16), none, (.flA 0 (.t 15))⟩,
          ⟨(some 17), none, (.ld 1 false (.t 16))⟩,
          ⟨(some 18), none, (.mov (.t 0))⟩,
          ⟨(some 19), none, (.mov (.t 4))⟩,
          ⟨(some 20), none, (.ixA 1 (.t 18) (.t 19))⟩,
          ⟨(some 21), none, (.ld 1 false (.t 20))⟩,
          ⟨(some 22), none, (.cvI .u64 (.t 21))⟩,
          ⟨(some 23), none, (.bin .xor (.t 17) (.t 22))⟩,
          ⟨(some 24), none, (.bin .mul (.t 23) (.k (.int .u64 15485907386658061715)))⟩,
          ⟨(some 25), none, (.nck (.t 13))⟩,
          ⟨(some 26), none, (.flA 0 (.t 25))⟩,
          ⟨none, none, (.st 1 (.t 26) (.t 24))⟩])
        (.ops [⟨(some 27), none, (.mov (.t 3))⟩,
          ⟨(some 28), none, (.callF 73 [(.t 27)])⟩])))
      (.ops [⟨(some 11), none, (.mov (.t 4))⟩,
        ⟨(some 12), none, (.bin .add (.t 11) (.k (.int .i64 1)))⟩,
        ⟨(some 4), none, (.mov (.t 12))⟩]))))))
  (.seq (.ops [⟨(some 29), none, (.mov (.t 3))⟩,
    ⟨(some 2), none, (.mov (.t 29))⟩])
  .ret))))⟩
def hint17 (P : Program) : Hint := {}

/-- (*aloeswood/aloeswoodkit.Box).Up -/
def ir20 : IFn :=
  ⟨14, [(4, none)], (.seq (.ops [⟨(some 4), none, (.mov (.k (.int .i64 0)))⟩])
  (.seq (.seq (.ops [⟨(some 5), none, (.mov (.t 1))⟩,
    ⟨(some 6), none, (.bin .lss (.t 5) (.k (.int .i64 2)))⟩])
  (.cnd (.t 6)
    (.seq (.ops [⟨(some 4), none, (.mov (.k (.int .i64 0)))⟩])
    .ret)
    .skip))
  (.seq (.ops [⟨(some 7), none, (.mov (.t 0))⟩,
    ⟨(some 8), none, (.callF 73 [(.t 7)])⟩,
    ⟨(some 9), none, (.bin .shr (.t 8) (.k (.int .u64 1)))⟩,
    ⟨(some 10), none, (.mov (.t 1))⟩,
    ⟨(some 11), none, (.cvI .u64 (.t 10))⟩,
    ⟨(some 12), none, (.bin .rem (.t 9) (.t 11))⟩,
    ⟨(some 13), none, (.cvI .i64 (.t 12))⟩,
    ⟨(some 4), none, (.mov (.t 13))⟩])
  .ret)))⟩
def hint20 (P : Program) : Hint := {}

/-- (*aloeswood/aloeswoodkit.Box).Any -/
def ir74 : IFn :=
  ⟨15, [(6, none)], (.seq (.ops [⟨(some 6), none, (.mov (.k (.int .i64 0)))⟩])
  (.seq (.ops [⟨(some 7), none, (.mov (.t 1))⟩,
    ⟨(some 8), none, (.mov (.t 0))⟩,
    ⟨(some 9), none, (.mov (.t 2))⟩,
    ⟨(some 10), none, (.mov (.t 1))⟩,
    ⟨(some 11), none, (.bin .sub (.t 9) (.t 10))⟩,
    ⟨(some 12), none, (.bin .add (.t 11) (.k (.int .i64 1)))⟩,
    ⟨(some 13), none, (.callF 20 [(.t 8), (.t 12)])⟩,
    ⟨(some 14), none, (.bin .add (.t 7) (.t 13))⟩,
    ⟨(some 6), none, (.mov (.t 14))⟩])
  .ret))⟩
def hint74 (P : Program) : Hint := {}

/-- (*aloeswood/aloeswoodkit.Box).One -/
def ir19 : IFn :=
  ⟨9, [(4, none)], (.seq (.ops [⟨(some 4), none, (.mov (.k (.bool false)))⟩])
  (.seq (.ops [⟨(some 5), none, (.mov (.t 0))⟩,
    ⟨(some 6), none, (.mov (.t 1))⟩,
    ⟨(some 7), none, (.callF 20 [(.t 5), (.t 6)])⟩,
    ⟨(some 8), none, (.bin .eql (.t 7) (.k (.int .i64 0)))⟩,
    ⟨(some 4), none, (.mov (.t 8))⟩])
  .ret))⟩
def hint19 (P : Program) : Hint := {}

/-- (*aloeswood/aloeswoodkit.Box).Pick -/
def ir90 : IFn :=
  ⟨15, [(4, none)], (.seq (.ops [⟨(some 4), none, (.mov (.k (.int .i64 0)))⟩])
  (.seq (.seq (.ops [⟨(some 5), none, (.mov (.t 1))⟩,
    ⟨(some 6), none, (.len false (.t 5))⟩,
    ⟨(some 7), none, (.bin .eql (.t 6) (.k (.int .i64 0)))⟩])
  (.cnd (.t 7)
    (.seq (.ops [⟨(some 4), none, (.mov (.k (.int .i64 0)))⟩])
    .ret)
    .skip))
  (.seq (.ops [⟨(some 8), none, (.mov (.t 1))⟩,
    ⟨(some 9), none, (.mov (.t 0))⟩,
    ⟨(some 10), none, (.mov (.t 1))⟩,
    ⟨(some 11), none, (.len false (.t 10))⟩,
    ⟨(some 12), none, (.callF 20 [(.t 9), (.t 11)])⟩,
    ⟨(some 13), none, (.ixA 1 (.t 8) (.t 12))⟩,
    ⟨(some 14), none, (.ld 1 false (.t 13))⟩,
    ⟨(some 4), none, (.mov (.t 14))⟩])
  .ret)))⟩
def hint90 (P : Program) : Hint := {}

theorem turn_c (g : Nat) (w : Int) : RawC Try.prog 73 [.ref 1000 g 0] (BoxS g w) (BoxR g fun av => ∃ n, av = .int .u64 n ∧ 0 ≤ n ∧ n < 18446744073709551616) := by
  refine RawC.walk (H := hint73 Try.prog) ir73 Try.func73 rfl rfl rfl ?_
  unfold ir73
  repeat' (first
    | with_reducible (first | refine Rd.p ?_ | refine w_alt ?_ ?_ | refine zE ?_ | refine zE0 ?_)
    | with_reducible (first | refine zI fun y hy => ?_ | refine zL ?_ | refine zS ?_ | refine zA fun _ => ?_ | refine zV ?_ | refine zC ?_ | refine zG ?_ | refine zU ?_ | refine zG0 ?_ | refine zU0 ?_ | refine zF ?_)
    | with_reducible (first | refine zX ?_ | refine zD fun _ => ?_ | refine zD0 ?_ | refine zN ?_ | refine zF0 ?_ | refine zX0 ?_ | refine z1 ?_ | refine z2 ?_ | refine z3 ?_ | refine z4 ?_ | refine z5 ?_ | refine z6 ?_ | refine z7 ?_ | refine z8 ?_ | refine y1 ?_ | refine y2 ?_ | refine y3 ?_ | refine y4 ?_ | refine y5 ?_ | refine y6 ?_ | refine y7 ?_ | refine y8 ?_ | refine Rt.p (fun _ => ?_) fun _ => ?_)
    | ((with_reducible apply w_ixM); (focus exact rfl); (focus exact rfl); case' hk => intro y hy) | ((with_reducible (first | apply w_val | apply q_ends)); (focus exact rfl)))
  exact ⟨_, ⟨_, rfl, (wrap_u64 _).1, (wrap_u64 _).2⟩, rfl⟩
theorem up_mod {a n : Int} (ha : 0 ≤ a) (hn : 2 ≤ n) (hw : IntKind.u64.wrap n = n) : 0 ≤ (a.fdiv (2 ^ min (Int.toNat 1) IntKind.u64.bits)).tmod (IntKind.u64.wrap n) ∧ (a.fdiv (2 ^ min (Int.toNat 1) IntKind.u64.bits)).tmod (IntKind.u64.wrap n) < n := by
  rw [hw]
  have h0 : 0 ≤ a.fdiv (2 ^ min (Int.toNat 1) IntKind.u64.bits) := Int.fdiv_nonneg ha (by decide)
  exact ⟨Int.tmod_nonneg _ h0, Int.tmod_lt_of_pos _ (by omega)⟩
theorem up_c (g : Nat) (w n : Int) (hn : n < 2 ^ 62) : RawC Try.prog 20 [.ref 1000 g 0, .int .i64 n] (BoxS g w) (BoxR g fun av => ∃ k, av = .int .i64 k ∧ 0 ≤ k ∧ (k < n ∨ k = 0)) := by
  by_cases h2 : n < 2
  · refine RawC.walk (H := hint20 Try.prog) ir20 Try.func20 rfl rfl rfl ?_
    unfold ir20
    repeat' (first
      | with_reducible (first | refine Rd.p ?_ | refine w_alt ?_ ?_ | refine zE ?_ | refine zE0 ?_)
      | with_reducible (first | refine zI fun y hy => ?_ | refine zL ?_ | refine zS ?_ | refine zA fun _ => ?_ | refine zV ?_ | refine zC ?_ | refine zG ?_ | refine zU ?_ | refine zG0 ?_ | refine zU0 ?_ | refine zF ?_)
      | with_reducible (first | refine zX ?_ | refine zD fun _ => ?_ | refine zD0 ?_ | refine zN ?_ | refine zF0 ?_ | refine zX0 ?_ | refine z1 ?_ | refine z2 ?_ | refine z3 ?_ | refine z4 ?_ | refine z5 ?_ | refine z6 ?_ | refine z7 ?_ | refine z8 ?_ | refine y1 ?_ | refine y2 ?_ | refine y3 ?_ | refine y4 ?_ | refine y5 ?_ | refine y6 ?_ | refine y7 ?_ | refine y8 ?_ | refine Rt.p (fun _ => ?_) fun _ => ?_)
      | ((with_reducible apply w_ixM); (focus exact rfl); (focus exact rfl); case' hk => intro y hy) | ((with_reducible (first | apply w_val | apply q_ends)); (focus exact rfl)))
    exact ⟨_, ⟨_, rfl, by omega⟩, rfl⟩
  have hw := wrap_u64_id n (by omega) (by omega)
  refine RawC.walk (H := hint20 Try.prog) ir20 Try.func20 rfl rfl rfl ?_
  unfold ir20
  repeat' (first
    | with_reducible (first | refine Rd.p ?_ | refine w_alt ?_ ?_ | refine zE ?_ | refine zE0 ?_)
    | with_reducible (first | refine zI fun y hy => ?_ | refine zL ?_ | refine zS ?_ | refine zA fun _ => ?_)
    | ((with_reducible apply w_ixM); (focus exact rfl); (focus exact rfl); (focus ((repeat' (with_reducible (first | exact trivial | apply And.intro))) <;> (first | (have := up_mod ha (by omega : 2 ≤ n) hw; unfold inI; omega) | exact sd))); case' hk => intro y hy) | ((with_reducible apply w_slM); (focus exact rfl); (focus exact rfl); (focus exact rfl); (focus ((repeat' (with_reducible (first | exact trivial | apply And.intro))) <;> (first | (have := up_mod ha (by omega : 2 ≤ n) hw; unfold inI; omega) | exact sd)))) | ((with_reducible apply w_val); (focus exact rfl); (focus ((repeat' (with_reducible (first | exact trivial | apply And.intro))) <;> (first | (have := up_mod ha (by omega : 2 ≤ n) hw; unfold inI; omega) | exact sd)))) | ((with_reducible apply w_det); (focus exact fun _ => rfl); (focus ((repeat' (with_reducible (first | exact trivial | apply And.intro))) <;> (first | (have := up_mod ha (by omega : 2 ≤ n) hw; unfold inI; omega) | exact sd))); case' hk => intro _) | ((with_reducible apply w_det0); (focus exact fun _ => rfl); (focus ((repeat' (with_reducible (first | exact trivial | apply And.intro))) <;> (first | (have := up_mod ha (by omega : 2 ≤ n) hw; unfold inI; omega) | exact sd)))) | ((with_reducible apply q_ends); (focus exact rfl); (focus ((repeat' (with_reducible (first | exact trivial | apply And.intro))) <;> (first | (have := up_mod ha (by omega : 2 ≤ n) hw; unfold inI; omega) | exact sd))))
    | with_reducible (first | refine zI fun y hy => ?_ | refine zL ?_ | refine zS ?_ | refine zA fun _ => ?_ | refine zV ?_ | refine zC ?_ | refine zG ?_ | refine zU ?_ | refine zG0 ?_ | refine zU0 ?_ | refine zF ?_)
    | ((with_reducible refine acall_id ?_); refine ACall.box (turn_c _ _) rfl rfl rfl ?_; rintro _ _ ⟨_, rfl, ha, _⟩)
    | with_reducible (first | refine zX ?_ | refine zD fun _ => ?_ | refine zD0 ?_ | refine zN ?_ | refine zF0 ?_ | refine zX0 ?_ | refine z1 ?_ | refine z2 ?_ | refine z3 ?_ | refine z4 ?_ | refine z5 ?_ | refine z6 ?_ | refine z7 ?_ | refine z8 ?_ | refine y1 ?_ | refine y2 ?_ | refine y3 ?_ | refine y4 ?_ | refine y5 ?_ | refine y6 ?_ | refine y7 ?_ | refine y8 ?_ | refine Rt.p (fun _ => ?_) fun _ => ?_)
    | ((with_reducible apply w_ixM); (focus exact rfl); (focus exact rfl); case' hk => intro y hy) | ((with_reducible (first | apply w_val | apply q_ends)); (focus exact rfl)))
  have := up_mod ha (by omega : 2 ≤ n) hw
  exact ⟨_, ⟨_, rfl, by omega⟩, rfl⟩
/-- The box gives a number from 0 on, less than n. -/
abbrev ltV (n : Int) (av : AV) : Prop := ∃ k, av = .int .i64 k ∧ 0 ≤ k ∧ k < n
theorem upp_c (g : Nat) (w n : Int) (h0 : 0 < n) (hn : n < 2 ^ 62) : RawC Try.prog 20 [.ref 1000 g 0, .int .i64 n] (BoxS g w) (BoxR g (ltV n)) :=
  (up_c g w n hn).mono fun _ _ ⟨w', ⟨k, h1, h2, h3⟩, h4⟩ => ⟨w', ⟨k, h1, h2, by omega⟩, h4⟩
theorem any_c (g : Nat) (w a b : Int) (h0 : -1000000 < a) (h1 : a < 1000000) (h2 : -1000000 < b) (h3 : b < 1000000) : RawC Try.prog 74 [.ref 1000 g 0, .int .i64 a, .int .i64 b] (BoxS g w) (BoxR g fun av => ∃ k, av = .int .i64 k ∧ a ≤ k ∧ (k ≤ b ∨ k = a)) := by
  refine RawC.walk (H := hint74 Try.prog) ir74 Try.func74 rfl rfl rfl ?_
  unfold ir74
  repeat' (first
    | with_reducible (first | refine Rd.p ?_ | refine w_alt ?_ ?_ | refine zE ?_ | refine zE0 ?_)
    | with_reducible (first | refine zI fun y hy => ?_ | refine zL ?_ | refine zS ?_ | refine zA fun _ => ?_ | refine zV ?_ | refine zC ?_ | refine zG ?_ | refine zU ?_ | refine zG0 ?_ | refine zU0 ?_ | refine zF ?_)
    | ((with_reducible refine acall_id ?_); refine ACall.box (up_c _ _ _ (by omega)) rfl rfl rfl ?_; rintro _ _ ⟨_, rfl, _, _⟩)
    | with_reducible (first | refine zX ?_ | refine zD fun _ => ?_ | refine zD0 ?_ | refine zN ?_ | refine zF0 ?_ | refine zX0 ?_ | refine z1 ?_ | refine z2 ?_ | refine z3 ?_ | refine z4 ?_ | refine z5 ?_ | refine z6 ?_ | refine z7 ?_ | refine z8 ?_ | refine y1 ?_ | refine y2 ?_ | refine y3 ?_ | refine y4 ?_ | refine y5 ?_ | refine y6 ?_ | refine y7 ?_ | refine y8 ?_ | refine Rt.p (fun _ => ?_) fun _ => ?_)
    | ((with_reducible apply w_ixM); (focus exact rfl); (focus exact rfl); case' hk => intro y hy) | ((with_reducible (first | apply w_val | apply q_ends)); (focus exact rfl)))
  exact ⟨_, ⟨_, rfl, by omega⟩, rfl⟩
theorem one_c (g : Nat) (w n : Int) (hn : n < 2 ^ 62) : RawC Try.prog 19 [.ref 1000 g 0, .int .i64 n] (BoxS g w) (BoxR g fun av => ∃ t, av = .bool t) := by
  refine RawC.walk (H := hint19 Try.prog) ir19 Try.func19 rfl rfl rfl ?_
  unfold ir19
  repeat' (first
    | with_reducible (first | refine Rd.p ?_ | refine w_alt ?_ ?_ | refine zE ?_ | refine zE0 ?_)
    | with_reducible (first | refine zI fun y hy => ?_ | refine zL ?_ | refine zS ?_ | refine zA fun _ => ?_ | refine zV ?_ | refine zC ?_ | refine zG ?_ | refine zU ?_ | refine zG0 ?_ | refine zU0 ?_ | refine zF ?_)
    | ((with_reducible refine acall_id ?_); refine ACall.box (up_c _ _ _ (by omega)) rfl rfl rfl ?_; rintro _ _ ⟨_, rfl, _, _⟩)
    | with_reducible (first | refine zX ?_ | refine zD fun _ => ?_ | refine zD0 ?_ | refine zN ?_ | refine zF0 ?_ | refine zX0 ?_ | refine z1 ?_ | refine z2 ?_ | refine z3 ?_ | refine z4 ?_ | refine z5 ?_ | refine z6 ?_ | refine z7 ?_ | refine z8 ?_ | refine y1 ?_ | refine y2 ?_ | refine y3 ?_ | refine y4 ?_ | refine y5 ?_ | refine y6 ?_ | refine y7 ?_ | refine y8 ?_ | refine Rt.p (fun _ => ?_) fun _ => ?_)
    | ((with_reducible apply w_ixM); (focus exact rfl); (focus exact rfl); case' hk => intro y hy) | ((with_reducible (first | apply w_val | apply q_ends)); (focus exact rfl)))
  exact ⟨_, ⟨_, rfl⟩, rfl⟩
theorem pick_c (g : Nat) (w : Int) (l : List Int) (h0 : l ≠ []) (hn : l.length < 2 ^ 62) : RawC Try.prog 90 [.ref 1000 g 0, .slc 1 (iR l) .non] (BoxS g w) (BoxR g fun av => ∃ k, av = .int .i64 k ∧ k ∈ l) := by
  have hl : 0 < l.length := List.length_pos_iff.2 h0
  have hL : (iR l).length = l.length := by simp
  refine RawC.walk (H := hint90 Try.prog) ir90 Try.func90 rfl rfl rfl ?_
  unfold ir90
  repeat' (first
    | with_reducible (first | refine Rd.p ?_ | refine w_alt ?_ ?_ | refine zE ?_ | refine zE0 ?_)
    | with_reducible (first | refine zI fun y hy => ?_ | refine zL ?_ | refine zS ?_ | refine zA fun _ => ?_ | refine zV ?_ | refine zC ?_ | refine zG ?_ | refine zU ?_ | refine zG0 ?_ | refine zU0 ?_ | refine zF ?_)
    | ((with_reducible refine acall_id ?_); refine ACall.box (upp_c _ _ _ (by omega) (by omega)) rfl rfl rfl ?_; rintro _ _ ⟨k, rfl, _, hk⟩)
    | with_reducible (first | refine zX ?_ | refine zD fun _ => ?_ | refine zD0 ?_ | refine zN ?_ | refine zF0 ?_ | refine zX0 ?_ | refine z1 ?_ | refine z2 ?_ | refine z3 ?_ | refine z4 ?_ | refine z5 ?_ | refine z6 ?_ | refine z7 ?_ | refine z8 ?_ | refine y1 ?_ | refine y2 ?_ | refine y3 ?_ | refine y4 ?_ | refine y5 ?_ | refine y6 ?_ | refine y7 ?_ | refine y8 ?_ | refine Rt.p (fun _ => ?_) fun _ => ?_)
    | ((with_reducible apply w_ixM); (focus exact rfl); (focus exact rfl); case' hk => intro y hy) | ((with_reducible (first | apply w_val | apply q_ends)); (focus exact rfl)))
  exact ⟨_, ⟨_, rfl, List.mem_of_getElem? hy⟩, rfl⟩
theorem boxOf_c (l : List Int) (hl : l.length < 2 ^ 62) : RawC Try.prog 17 [.slc 1 (iR l) .non] (sg []) (fun av σ' => ∃ g w, av = .ref 6 g 0 ∧ σ' 6 = (g, .row [.int .u64 w])) := by
  have hL : (iR l).length = l.length := by simp
  refine RawC.walk (H := hint17 Try.prog) ir17 Try.func17 rfl rfl rfl ?_
  unfold ir17
  repeat' (first
    | with_reducible (first | refine Rd.p ?_ | refine w_alt ?_ ?_ | refine zE ?_ | refine zE0 ?_)
    | with_reducible (first | refine zI fun y hy => ?_ | refine zL ?_ | refine zS ?_ | refine zA fun _ => ?_ | refine zV ?_ | refine zC ?_ | refine zG ?_ | refine zU ?_ | refine zG0 ?_ | refine zU0 ?_ | refine zF ?_)
    | with_reducible (first | refine zX ?_ | refine zD fun _ => ?_ | refine zD0 ?_ | refine zN ?_ | refine zF0 ?_ | refine zX0 ?_ | refine z1 ?_ | refine z2 ?_ | refine z3 ?_ | refine z4 ?_ | refine z5 ?_ | refine z6 ?_ | refine z7 ?_ | refine z8 ?_ | refine y1 ?_ | refine y2 ?_ | refine y3 ?_ | refine y4 ?_ | refine y5 ?_ | refine y6 ?_ | refine y7 ?_ | refine y8 ?_ | refine Rt.p (fun _ => ?_) fun _ => ?_)
    | ((with_reducible apply w_ixM); (focus exact rfl); (focus exact rfl); case' hk => intro y hy) | ((with_reducible (first | apply w_val | apply q_ends)); (focus exact rfl)))
  refine w_loopK [0, 3] [] (fun x : Nat × Int => x.1 ≤ l.length) (fun x => l.length - x.1) (fun x => [(4, .int .i64 x.1)]) (fun x => [(6, (_, .row [.int .u64 x.2]))]) (0, _) (Nat.zero_le _) ⟨rfl, trivial⟩ ⟨rfl, trivial⟩ ?_
  rintro ⟨k, w⟩ hk e σ
  dsimp only at hk ⊢
  repeat' (first
    | with_reducible (first | refine Rd.p ?_ | refine w_alt ?_ ?_ | refine zE ?_ | refine zE0 ?_)
    | with_reducible (first | refine zI fun y hy => ?_ | refine zL ?_ | refine zS ?_ | refine zA fun _ => ?_ | refine zV ?_ | refine zC ?_ | refine zG ?_ | refine zU ?_ | refine zG0 ?_ | refine zU0 ?_ | refine zF ?_)
    | ((with_reducible refine acall_id ?_); refine ACall.box (turn_c _ _) rfl rfl rfl ?_; rintro _ _ ⟨_, rfl, _, _⟩)
    | with_reducible (first | refine zX ?_ | refine zD fun _ => ?_ | refine zD0 ?_ | refine zN ?_ | refine zF0 ?_ | refine zX0 ?_ | refine z1 ?_ | refine z2 ?_ | refine z3 ?_ | refine z4 ?_ | refine z5 ?_ | refine z6 ?_ | refine z7 ?_ | refine z8 ?_ | refine y1 ?_ | refine y2 ?_ | refine y3 ?_ | refine y4 ?_ | refine y5 ?_ | refine y6 ?_ | refine y7 ?_ | refine y8 ?_ | refine Rt.p (fun _ => ?_) fun _ => ?_)
    | ((with_reducible apply w_ixM); (focus exact rfl); (focus exact rfl); case' hk => intro y hy) | ((with_reducible (first | apply w_val | apply q_ends)); (focus exact rfl)))
  · simp at *
    exact q_loop (k + 1, _) (by dsimp only; omega) (by dsimp only; omega) ⟨rfl, trivial⟩ ⟨rfl, trivial⟩ ⟨rfl, rfl, trivial⟩ trivial
  · exact ⟨_, _, rfl, rfl⟩
end Go.Abs
