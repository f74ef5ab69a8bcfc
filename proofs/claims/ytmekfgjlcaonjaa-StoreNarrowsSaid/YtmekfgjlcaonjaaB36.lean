/- A part of the proofs of the laws of this seat: contracts of the functions that they reach, each proved of the program's form in Lean. No condition beyond those that each contract names. -/
import Derived.Test.YtmekfgjlcaonjaaB0
import Derived.Test.YtmekfgjlcaonjaaB1
import Derived.Test.YtmekfgjlcaonjaaB2
import Derived.Test.YtmekfgjlcaonjaaB8
import Derived.Test.YtmekfgjlcaonjaaB9
import Derived.Test.YtmekfgjlcaonjaaB20
import Derived.Test.YtmekfgjlcaonjaaB21
import Derived.Test.YtmekfgjlcaonjaaB30
set_option linter.unusedVariables false
set_option linter.unusedSimpArgs false
set_option maxRecDepth 20000
set_option maxHeartbeats 4000000
/-! ### Bonds -/
namespace Go.Abs
open Go.Proofs
/-- aloeswood/aloeswoodkit.Has -/
def ir37 : IFn :=
  ⟨18, [(4, none)], (.seq (.ops [⟨(some 4), none, (.mov (.k (.bool false)))⟩])
  (.seq (.seq (.ops [⟨(some 5), none, (.mov (.k (.int .i64 0)))⟩])
  (.blk 0 (.loop (.seq (.seq (.ops [⟨(some 6), none, (.mov (.t 5))⟩,
        ⟨(some 7), none, (.mov (.t 0))⟩,
        ⟨(some 8), none, (.len false (.t 7))⟩,
        ⟨(some 9), none, (.bin .lss (.t 6) (.t 8))⟩])
      (.cnd (.t 9)
        .skip
        (.exit 0)))
      (.seq (.blk 1 (.seq (.ops [⟨(some 12), none, (.mov (.t 0))⟩,
          ⟨(some 13), none, (.mov (.t 5))⟩,
          ⟨(some 14), none, (.ixA 1 (.t 12) (.t 13))⟩,
          ⟨(some 15), none, (.ld 1 false (.t 14))⟩,
          ⟨(some 16), none, (.mov (.t 1))⟩,
          ⟨(some 17), none, (.bin .eql (.t 15) (.t 16))⟩])
        (.cnd (.t 17)
          (.seq (.ops [⟨(some 4), none, (.mov (.k (.bool true)))⟩])
          .ret)
          .skip)))
      (.ops [⟨(some 10), none, (.mov (.t 5))⟩,
        ⟨(some 11), none, (.bin .add (.t 10) (.k (.int .i64 1)))⟩,
        ⟨(some 5), none, (.mov (.t 11))⟩]))))))
  (.seq (.ops [⟨(some 4), none, (.mov (.k (.bool false)))⟩])
  .ret)))⟩
def hint37 (P : Program) : Hint := {}

abbrev bA (b : Bond) : AV := .agg [.int .i64 b.kind, .int .i64 b.a, .int .i64 b.b]
def bErr (b : Bond) (n : Int) : Int := if inB b.kind 1 2 = true then (if (inB b.a 0 (n - 1) && inB b.b 0 (n - 1)) = true then (if b.a = b.b then 3 else 0) else 7) else 4
def bsErr (n : Int) : List Bond → Int
  | [] => 0
  | b :: bs => if bErr b n = 0 then bsErr n bs else bErr b n
/-- Whether a bond is kept, by who is there. -/
def bondB (b : Bond) (x y : Bool) : Bool := if b.kind = 1 then (!x || !y) else (!x || y)
abbrev bondS (set : Nat) (b : Bond) : Bool := bondB b (set.testBit b.a.toNat) (set.testBit b.b.toNat)
abbrev bondL (l : List Int) (b : Bond) : Bool := bondB b (decide (b.a ∈ l)) (decide (b.b ∈ l))
theorem bit_and (set : Nat) (hs : set < 2 ^ 62) {k : Int} (hk : 0 ≤ k ∧ k < 62) : decide (bitV .and .i64 ((set : Int).fdiv (2 ^ min k.toNat IntKind.i64.bits)) 1 = 1) = set.testBit k.toNat := by
  obtain ⟨j, rfl⟩ : ∃ j : Nat, k = j := ⟨k.toNat, by omega⟩
  rw [fdiv_pow set j (by omega)]
  have h1 : bitV .and .i64 ((set >>> j : Nat) : Int) ((1 : Nat) : Int) = ((set >>> j &&& 1 : Nat) : Int) := and_nat _ 1 (Nat.lt_of_le_of_lt (Nat.shiftRight_le _ _) hs) (by decide)
  rw [Nat.and_one_is_mod] at h1
  rw [show (1 : Int) = ((1 : Nat) : Int) from rfl, h1]
  have e2 : set.testBit j = decide (set >>> j % 2 = 1) := by simp [Nat.testBit, Nat.and_comm, Nat.and_one_is_mod]
  rw [Int.toNat_natCast, e2]
  exact decide_eq_decide.2 (by omega)
theorem has_c (l : List Int) (k : Int) (hl : l.length < 1000000) : Fn0 Try.prog 37 [.slc 1 (iR l) .non, .int .i64 k] (fun v => v = .bool (decide (k ∈ l))) := by
  refine RawC.walk (H := hint37 Try.prog) ir37 Try.func37 rfl rfl rfl ?_
  unfold ir37
  repeat' (first
    | with_reducible (first | refine Rd.p ?_ | refine w_alt ?_ ?_ | refine zE ?_ | refine zE0 ?_)
    | with_reducible (first | refine zI fun y hy => ?_ | refine zL ?_ | refine zS ?_ | refine zA fun _ => ?_ | refine zV ?_ | refine zC ?_ | refine zG ?_ | refine zU ?_ | refine zG0 ?_ | refine zU0 ?_ | refine zF ?_)
    | with_reducible (first | refine zX ?_ | refine zD fun _ => ?_ | refine zD0 ?_ | refine zN ?_ | refine zF0 ?_ | refine zX0 ?_ | refine z1 ?_ | refine z2 ?_ | refine z3 ?_ | refine z4 ?_ | refine z5 ?_ | refine z6 ?_ | refine z7 ?_ | refine z8 ?_ | refine y1 ?_ | refine y2 ?_ | refine y3 ?_ | refine y4 ?_ | refine y5 ?_ | refine y6 ?_ | refine y7 ?_ | refine y8 ?_ | refine Rt.p (fun _ => ?_) fun _ => ?_)
    | ((with_reducible apply w_ixM); (focus exact rfl); (focus exact rfl); case' hk => intro y hy) | ((with_reducible (first | apply w_val | apply q_ends)); (focus exact rfl)))
  refine w_loopK [0, 1] [] (fun x : List Int × List Int => l = x.1 ++ x.2 ∧ k ∉ x.1) (fun x => x.2.length) (fun x => [(5, .int .i64 x.1.length)]) (fun _ => []) ([], l) ⟨rfl, by simp⟩ ⟨rfl, trivial⟩ trivial ?_
  rintro ⟨pre, post⟩ ⟨hp, hb⟩ e σ
  dsimp only at hp hb ⊢
  have hlen := congrArg List.length hp
  cases post with
  | nil =>
    simp only [List.append_nil, List.length_append, List.length_nil] at hlen
    repeat' (first
      | with_reducible (first | refine Rd.p ?_ | refine w_alt ?_ ?_ | refine zE ?_ | refine zE0 ?_)
      | with_reducible (first | refine zI fun y hy => ?_ | refine zL ?_ | refine zS ?_ | refine zA fun _ => ?_ | refine zV ?_ | refine zC ?_ | refine zG ?_ | refine zU ?_ | refine zG0 ?_ | refine zU0 ?_ | refine zF ?_)
      | with_reducible (first | refine zX ?_ | refine zD fun _ => ?_ | refine zD0 ?_ | refine zN ?_ | refine zF0 ?_ | refine zX0 ?_ | refine z1 ?_ | refine z2 ?_ | refine z3 ?_ | refine z4 ?_ | refine z5 ?_ | refine z6 ?_ | refine z7 ?_ | refine z8 ?_ | refine y1 ?_ | refine y2 ?_ | refine y3 ?_ | refine y4 ?_ | refine y5 ?_ | refine y6 ?_ | refine y7 ?_ | refine y8 ?_ | refine Rt.p (fun _ => ?_) fun _ => ?_)
      | ((with_reducible apply w_ixM); (focus exact rfl); (focus exact rfl); case' hk => intro y hy) | ((with_reducible (first | apply w_val | apply q_ends)); (focus exact rfl)))
    refine congrArg AV.bool (decide_eq_false ?_).symm
    rw [hp, List.append_nil]; exact hb
  | cons c post =>
    simp only [List.length_append, List.length_cons] at hlen
    repeat' (first
      | with_reducible (first | refine Rd.p ?_ | refine w_alt ?_ ?_ | refine zE ?_ | refine zE0 ?_)
      | (refine w_ixP hp rfl rfl ?_)
      | with_reducible (first | refine zI fun y hy => ?_ | refine zL ?_ | refine zS ?_ | refine zA fun _ => ?_ | refine zV ?_ | refine zC ?_ | refine zG ?_ | refine zU ?_ | refine zG0 ?_ | refine zU0 ?_ | refine zF ?_)
      | with_reducible (first | refine zX ?_ | refine zD fun _ => ?_ | refine zD0 ?_ | refine zN ?_ | refine zF0 ?_ | refine zX0 ?_ | refine z1 ?_ | refine z2 ?_ | refine z3 ?_ | refine z4 ?_ | refine z5 ?_ | refine z6 ?_ | refine z7 ?_ | refine z8 ?_ | refine y1 ?_ | refine y2 ?_ | refine y3 ?_ | refine y4 ?_ | refine y5 ?_ | refine y6 ?_ | refine y7 ?_ | refine y8 ?_ | refine Rt.p (fun _ => ?_) fun _ => ?_)
      | ((with_reducible apply w_ixM); (focus exact rfl); (focus exact rfl); case' hk => intro y hy) | ((with_reducible (first | apply w_val | apply q_ends)); (focus exact rfl)))
    · rename_i h
      exact congrArg AV.bool (decide_eq_true (by rw [hp, ← h]; simp)).symm
    · rename_i h
      refine zQ (pre ++ [c], post) ?_ ?_
      · dsimp only
        refine ⟨by rw [hp]; simp, ?_⟩
        simp [hb]; exact fun hc => h hc.symm
      · simp
end Go.Abs
