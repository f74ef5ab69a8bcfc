/- A part of the proofs of the laws of this seat: contracts of the functions that they reach, each proved of the program's form in Lean. No condition beyond those that each contract names. -/
import Derived.Test.YtajbhojompefoaaB0
import Derived.Test.YtajbhojompefoaaB1
import Derived.Test.YtajbhojompefoaaB8
import Derived.Test.YtajbhojompefoaaB9
import Derived.Test.YtajbhojompefoaaB10
import Derived.Test.YtajbhojompefoaaB11
import Derived.Test.YtajbhojompefoaaB12
import Derived.Test.YtajbhojompefoaaB13a
import Derived.Test.YtajbhojompefoaaB14a
import Derived.Test.YtajbhojompefoaaB16
import Derived.Test.YtajbhojompefoaaB17
import Derived.Test.YtajbhojompefoaaB18
import Derived.Test.YtajbhojompefoaaB19a
import Derived.Test.YtajbhojompefoaaB20
import Derived.Test.YtajbhojompefoaaB30
import Derived.Test.YtajbhojompefoaaB60
set_option linter.unusedVariables false
set_option linter.unusedSimpArgs false
set_option maxRecDepth 20000
set_option maxHeartbeats 4000000
/-! ### TopOrders -/
namespace Go.Abs
open Go.Proofs
/-- aloeswood/aloeswoodkit.Fit -/
def ir4 : IFn :=
  ⟨16, [(4, none)], (.seq (.ops [⟨(some 4), none, (.mov (.k (.int .i64 0)))⟩])
  (.seq (.seq (.ops [⟨(some 5), none, (.mov (.t 1))⟩,
    ⟨(some 6), none, (.bin .lss (.t 5) (.k (.int .i64 2)))⟩])
  (.cnd (.t 6)
    (.seq (.ops [⟨(some 4), none, (.mov (.k (.int .i64 0)))⟩])
    .ret)
    .skip))
  (.seq (.ops [⟨(some 7), none, (.mov (.t 0))⟩,
    ⟨(some 8), none, (.mov (.t 1))⟩,
    ⟨(some 9), none, (.bin .rem (.t 7) (.t 8))⟩,
    ⟨(some 0), none, (.mov (.t 9))⟩])
  (.seq (.seq (.ops [⟨(some 10), none, (.mov (.t 0))⟩,
    ⟨(some 11), none, (.bin .lss (.t 10) (.k (.int .i64 0)))⟩])
  (.cnd (.t 11)
    (.ops [⟨(some 12), none, (.mov (.t 0))⟩,
      ⟨(some 13), none, (.mov (.t 1))⟩,
      ⟨(some 14), none, (.bin .add (.t 12) (.t 13))⟩,
      ⟨(some 0), none, (.mov (.t 14))⟩])
    .skip))
  (.seq (.ops [⟨(some 15), none, (.mov (.t 0))⟩,
    ⟨(some 4), none, (.mov (.t 15))⟩])
  .ret)))))⟩
def hint4 (P : Program) : Hint := {}

/-- aloeswood/aloeswoodtop.kept -/
def ir9 : IFn :=
  ⟨67, [(6, none), (7, none)], (.seq (.ops [⟨(some 5), none, (.box 4 (.t 2))⟩,
    ⟨(some 6), none, (.mov (.k (.int .i64 0)))⟩,
    ⟨(some 7), none, (.mov (.k (.bool false)))⟩])
  (.seq (.ops [⟨(some 15), none, (.ld 4 true (.t 5))⟩,
    ⟨(some 16), none, (.bsl 4 [[(.int .i64 0), (.int .i64 0), (.int .i64 0), (.int .i64 0)]] [(0, (.t 15))])⟩,
    ⟨(some 17), none, (.bld [.nsl, .nsl] [(1, 1, (.t 16))])⟩,
    ⟨(some 8), none, (.new [.nsl, .nsl])⟩,
    ⟨none, none, (.st 2 (.t 8) (.t 17))⟩])
  (.seq (.seq (.ops [⟨(some 9), none, (.mov (.k (.int .i64 0)))⟩])
  (.blk 0 (.loop (.seq (.seq (.ops [⟨(some 18), none, (.mov (.t 9))⟩,
        ⟨(some 19), none, (.mov (.t 0))⟩,
        ⟨(some 20), none, (.bin .lss (.t 18) (.t 19))⟩])
      (.cnd (.t 20)
        .skip
        (.exit 0)))
      (.seq (.blk 1 (.ops [⟨(some 23), none, (.flA 0 (.t 8))⟩,
          ⟨(some 24), none, (.ld 1 false (.t 23))⟩,
          ⟨(some 25), none, (.mov (.t 9))⟩,
          ⟨(some 26), none, (.bin .add (.k (.int .i64 97)) (.t 25))⟩,
          ⟨(some 27), none, (.cvI .u8 (.t 26))⟩,
          ⟨(some 28), none, (.bsl 1 [[(.int .u8 0)]] [(0, (.t 27))])⟩,
          ⟨(some 29), none, (.cvBS (.t 28))⟩,
          ⟨(some 30), none, (.bld [(.str ByteArray.empty), (.int .i64 0), (.int .i64 0), (.int .i64 0), (.int .i64 0)] [(0, 1, (.t 29))])⟩,
          ⟨(some 31), none, (.bsl 5 [[(.str ByteArray.empty), (.int .i64 0), (.int .i64 0), (.int .i64 0), (.int .i64 0)]] [(0, (.t 30))])⟩,
          ⟨(some 32), none, (.app 5 48 (.t 24) (.t 31) 32)⟩,
          ⟨(some 33), none, (.flA 0 (.t 8))⟩,
          ⟨none, none, (.st 1 (.t 33) (.t 32))⟩]))
      (.ops [⟨(some 21), none, (.mov (.t 9))⟩,
        ⟨(some 22), none, (.bin .add (.t 21) (.k (.int .i64 1)))⟩,
        ⟨(some 9), none, (.mov (.t 22))⟩]))))))
  (.seq (.ops [⟨(some 10), none, (.mov (.k (.int .i64 0)))⟩])
  (.seq (.seq (.ops [⟨(some 11), none, (.mov (.k (.int .i64 0)))⟩])
  (.blk 2 (.loop (.seq (.seq (.ops [⟨(some 34), none, (.mov (.t 11))⟩,
        ⟨(some 35), none, (.mov (.t 1))⟩,
        ⟨(some 36), none, (.len false (.t 35))⟩,
        ⟨(some 37), none, (.bin .lss (.t 34) (.t 36))⟩])
      (.cnd (.t 37)
        .skip
        (.exit 2)))
      (.seq (.blk 3 (.seq (.ops [⟨(some 41), none, (.ld 2 true (.t 8))⟩,
          ⟨(some 42), none, (.mov (.t 1))⟩,
          ⟨(some 43), none, (.mov (.t 11))⟩,
          ⟨(some 44), none, (.ixA 1 (.t 42) (.t 43))⟩,
          ⟨(some 45), none, (.ld 1 false (.t 44))⟩,
          ⟨(some 46), none, (.callF 15 [(.t 41), (.t 45)])⟩,
          ⟨(some 40), none, (.mov (.t 46))⟩,
          ⟨(some 47), none, (.ext 0 (.t 40))⟩,
          ⟨(some 48), none, (.ext 1 (.t 40))⟩,
          ⟨(some 49), none, (.ext 2 (.t 40))⟩,
          ⟨(some 12), none, (.mov (.t 47))⟩,
          ⟨(some 13), none, (.mov (.t 48))⟩,
          ⟨(some 14), none, (.mov (.t 49))⟩])
        (.seq (.seq (.ops [⟨(some 50), none, (.mov (.t 14))⟩,
          ⟨(some 51), none, (.bin .neq (.t 50) (.k (.int .i64 0)))⟩,
          ⟨(some 52), none, (.mov (.t 51))⟩,
          ⟨(some 53), (some (52, false)), (.mov (.t 13))⟩,
          ⟨(some 54), (some (52, false)), (.flA 3 (.t 5))⟩,
          ⟨(some 55), (some (52, false)), (.ld 1 false (.t 54))⟩,
          ⟨(some 56), (some (52, false)), (.mov (.t 12))⟩,
          ⟨(some 57), (some (52, false)), (.len false (.t 56))⟩,
          ⟨(some 58), (some (52, false)), (.bin .mul (.t 55) (.t 57))⟩,
          ⟨(some 59), (some (52, false)), (.bin .neq (.t 53) (.t 58))⟩,
          ⟨(some 60), none, (.pick (.t 52) (.k (.bool true)) (.t 59))⟩])
        (.cnd (.t 60)
          (.seq (.ops [⟨(some 6), none, (.mov (.k (.int .i64 0)))⟩,
            ⟨(some 7), none, (.mov (.k (.bool false)))⟩])
          .ret)
          .skip))
        (.seq (.ops [⟨(some 61), none, (.mov (.t 12))⟩,
          ⟨(some 62), none, (.len false (.t 61))⟩,
          ⟨(some 63), none, (.bin .eql (.t 62) (.k (.int .i64 0)))⟩])
        (.cnd (.t 63)
          (.ops [⟨(some 64), none, (.mov (.t 10))⟩,
            ⟨(some 65), none, (.bin .add (.t 64) (.k (.int .i64 1)))⟩,
            ⟨(some 10), none, (.mov (.t 65))⟩])
          .skip)))))
      (.ops [⟨(some 38), none, (.mov (.t 11))⟩,
        ⟨(some 39), none, (.bin .add (.t 38) (.k (.int .i64 1)))⟩,
        ⟨(some 11), none, (.mov (.t 39))⟩]))))))
  (.seq (.ops [⟨(some 66), none, (.mov (.t 10))⟩,
    ⟨(some 6), none, (.mov (.t 66))⟩,
    ⟨(some 7), none, (.mov (.k (.bool true)))⟩])
  .ret))))))⟩
def hint9 (P : Program) : Hint := {}

theorem Sub.tag {sz : Nat} {es : List (List AV)} {t : Tag} : Sub (.slc sz es t) (.slc sz es .non) := fun G v h => h.imp id fun ⟨b, o, cap, h1, h2, h3, _⟩ => ⟨b, o, cap, h1, h2, h3, trivial⟩
theorem fitN_c (a m : Int) (ha : -9223372036854775808 ≤ a ∧ a ≤ 9223372036854775807) (hm : 1 ≤ m ∧ m ≤ 1000) : Fn0 Try.prog 4 [.int .i64 a, .int .i64 m] (fun v => v = .int .i64 (a % m)) := by
  have h0 := Int.emod_nonneg a (show m ≠ 0 by omega)
  have h1 := Int.emod_lt_of_pos a (show 0 < m by omega)
  by_cases hm1 : m = 1
  · subst hm1
    refine RawC.walk (H := hint4 Try.prog) ir4 Try.func4 rfl rfl rfl ?_
    unfold ir4
    repeat' (first
      | with_reducible (first | refine Rd.p ?_ | refine zE ?_ | refine zE0 ?_)
      | with_reducible (first | refine zI fun y hy => ?_ | refine zL ?_ | refine zS ?_ | refine zA fun _ => ?_ | refine zV ?_ | refine zC ?_ | refine zG ?_ | refine zU ?_ | refine zG0 ?_ | refine zU0 ?_ | refine zF ?_)
      | with_reducible (first | refine zX ?_ | refine zD fun _ => ?_ | refine zD0 ?_ | refine zN ?_ | refine zF0 ?_ | refine zX0 ?_ | refine z1 ?_ | refine z2 ?_ | refine z3 ?_ | refine z4 ?_ | refine z5 ?_ | refine z6 ?_ | refine z7 ?_ | refine z8 ?_ | refine y1 ?_ | refine y2 ?_ | refine y3 ?_ | refine y4 ?_ | refine y5 ?_ | refine y6 ?_ | refine y7 ?_ | refine y8 ?_ | refine Rt.p (fun _ => ?_) fun _ => ?_)
      | ((with_reducible apply w_ixM); (focus exact rfl); (focus exact rfl); case' hk => intro y hy) | ((with_reducible (first | apply w_val | apply q_ends)); (focus exact rfl)))
    all_goals first | (exfalso; omega) | (refine congrArg (AV.int .i64) ?_; omega)
  have ht : a.tmod m = a % m ∨ a.tmod m = a % m - m := by
    rcases Int.le_total 0 a with h | h
    · left; exact Int.tmod_eq_emod_of_nonneg h
    · rw [Int.tmod_eq_emod]
      split
      · left; omega
      · right
        have : (m.natAbs : Int) = m := by omega
        omega
  refine RawC.walk (H := hint4 Try.prog) ir4 Try.func4 rfl rfl rfl ?_
  unfold ir4
  repeat' (first
    | with_reducible (first | refine Rd.p ?_ | refine zE ?_ | refine zE0 ?_)
    | with_reducible (first | refine zI fun y hy => ?_ | refine zL ?_ | refine zS ?_ | refine zA fun _ => ?_ | refine zV ?_ | refine zC ?_ | refine zG ?_ | refine zU ?_ | refine zG0 ?_ | refine zU0 ?_ | refine zF ?_)
    | with_reducible (first | refine zX ?_ | refine zD fun _ => ?_ | refine zD0 ?_ | refine zN ?_ | refine zF0 ?_ | refine zX0 ?_ | refine z1 ?_ | refine z2 ?_ | refine z3 ?_ | refine z4 ?_ | refine z5 ?_ | refine z6 ?_ | refine z7 ?_ | refine z8 ?_ | refine y1 ?_ | refine y2 ?_ | refine y3 ?_ | refine y4 ?_ | refine y5 ?_ | refine y6 ?_ | refine y7 ?_ | refine y8 ?_ | refine Rt.p (fun _ => ?_) fun _ => ?_)
    | ((with_reducible apply w_ixM); (focus exact rfl); (focus exact rfl); case' hk => intro y hy) | ((with_reducible (first | apply w_val | apply q_ends)); (focus exact rfl)))
  all_goals first | (exfalso; omega) | (refine congrArg (AV.int .i64) ?_; omega)
def nameAt (i : Nat) : ByteArray := ⟨[UInt8.ofNat (IntKind.u8.wrap (97 + (i : Int))).toNat].toArray⟩
def keptG (n : Nat) : List Guest := (List.range n).map fun i => ⟨nameAt i, 0, 0, 0, 0⟩
theorem keptG_ok : ∀ n < 8, gsErr [] (keptG n) = 0 := by decide +kernel
theorem keptG_len (n : Nat) : (keptG n).length = n := by simp [keptG]
def keptO (n g : Nat) : AV := match n with
  | 0 => .nsl
  | k + 1 => .slc 5 (gR (keptG (k + 1))) (.own 32 g)
def keptS (n g : Nat) : List (Nat × (Nat × Res)) := match n with
  | 0 => []
  | k + 1 => [(32, (g, .row []))]
theorem kept_c (n : Nat) (hn : 1 ≤ n ∧ n ≤ 7) (ls : List (List Int)) (hl : ls.length < 1000) (hp : ∀ l ∈ ls, isPerm n l) (r : Rule) (hr : rErr r n = 0) (hw : 0 ≤ r.weight ∧ r.weight ≤ 1000) :
    Fn0 Try.prog 9 [.int .i64 n, .slc 1 (llR ls) .non, rA r] (fun v => v = .tup [.int .i64 (ls.filter fun l => keepsB (keptG n) (atL l) r).length, .bool true]) := by
  have hgl := keptG_len n
  have hk : pErr (keptG n) [r] = 0 := by
    rw [pErr, if_neg (by omega), if_neg (by omega), if_pos (keptG_ok n (by omega)), if_neg (by simp)]
    refine rsErr_all fun x hx => ?_
    rw [List.mem_singleton] at hx; subst hx; rw [hgl]; exact hr
  have hsz : ∀ x ∈ keptG n, x.name.size ≤ 1000 := by
    intro x hx
    obtain ⟨i, _, rfl⟩ := List.mem_map.1 hx
    show (1 : Nat) ≤ 1000
    decide
  refine RawC.walk (H := hint9 Try.prog) ir9 Try.func9 rfl rfl rfl ?_
  unfold ir9
  repeat' (first
    | with_reducible (first | refine Rd.p ?_ | refine zE ?_ | refine zE0 ?_)
    | with_reducible (first | refine zI fun y hy => ?_ | refine zL ?_ | refine zS ?_ | refine zA fun _ => ?_ | refine zV ?_ | refine zC ?_ | refine zG ?_ | refine zU ?_ | refine zG0 ?_ | refine zU0 ?_ | refine zF ?_)
    | with_reducible (first | refine zX ?_ | refine zD fun _ => ?_ | refine zD0 ?_ | refine zN ?_ | refine zF0 ?_ | refine zX0 ?_ | refine z1 ?_ | refine z2 ?_ | refine z3 ?_ | refine z4 ?_ | refine z5 ?_ | refine z6 ?_ | refine z7 ?_ | refine z8 ?_ | refine y1 ?_ | refine y2 ?_ | refine y3 ?_ | refine y4 ?_ | refine y5 ?_ | refine y6 ?_ | refine y7 ?_ | refine y8 ?_ | refine Rt.p (fun _ => ?_) fun _ => ?_)
    | ((with_reducible apply w_ixM); (focus exact rfl); (focus exact rfl); case' hk => intro y hy) | ((with_reducible (first | apply w_val | apply q_ends)); (focus exact rfl)))
  rename_i g5 g8
  refine w_loopK [0, 1, 5, 8] [5] (fun x : Nat × Nat => x.1 ≤ n) (fun x => n - x.1) (fun x => [(9, .int .i64 x.1)]) (fun x => (8, (g8, .row [keptO x.1 x.2, .slc 4 (rR [r]) .full])) :: keptS x.1 x.2) (0, 0) (Nat.zero_le _) ⟨rfl, trivial⟩ ⟨rfl, trivial⟩ ?_
  rintro ⟨i, g⟩ hi e σ
  dsimp only at hi ⊢
  by_cases hlt : i < n
  case pos =>
    have hG : keptG (i + 1) = keptG i ++ [⟨nameAt i, 0, 0, 0, 0⟩] := by rw [keptG, List.range_succ, List.map_append]; rfl
    have hil : (gR (keptG i)).length = i := by simp [keptG]
    cases i with
    | zero =>
      repeat' (first
        | with_reducible (first | refine Rd.p ?_ | refine zE ?_ | refine zE0 ?_)
        | with_reducible (first | refine zI fun y hy => ?_ | refine zL ?_ | refine zS ?_ | refine zA fun _ => ?_ | refine zV ?_ | refine zC ?_ | refine zG ?_ | refine zU ?_ | refine zG0 ?_ | refine zU0 ?_ | refine zF ?_)
        | with_reducible (first | refine zX ?_ | refine zD fun _ => ?_ | refine zD0 ?_ | refine zN ?_ | refine zF0 ?_ | refine zX0 ?_ | refine z1 ?_ | refine z2 ?_ | refine z3 ?_ | refine z4 ?_ | refine z5 ?_ | refine z6 ?_ | refine z7 ?_ | refine z8 ?_ | refine y1 ?_ | refine y2 ?_ | refine y3 ?_ | refine y4 ?_ | refine y5 ?_ | refine y6 ?_ | refine y7 ?_ | refine y8 ?_ | refine Rt.p (fun _ => ?_) fun _ => ?_)
        | ((with_reducible apply w_ixM); (focus exact rfl); (focus exact rfl); case' hk => intro y hy) | ((with_reducible (first | apply w_val | apply q_ends)); (focus exact rfl)))
      refine q_loop (1, _) ?_ ?_ (by repeat' (first | exact slots_nil | apply slots_cons | rfl | (rw [map_snoc]; rfl) | (rw [len_snoc]; rfl) | (rw [hS]; rfl) | (rw [hS, map_snoc]; rfl) | (refine int_eq ?_; (try dsimp only); omega) | (refine congrArg AV.bool ?_; simp_all; done))) ⟨rfl, rfl, trivial⟩ (by repeat' (first | exact kept_nil | apply kept_cons | rfl)) (by repeat' (first | exact kept_nil | apply kept_cons | rfl))
      · dsimp only; omega
      · dsimp only; omega
    | succ i =>
      repeat' (first
        | with_reducible (first | refine Rd.p ?_ | refine zE ?_ | refine zE0 ?_)
        | with_reducible (first | refine zI fun y hy => ?_ | refine zL ?_ | refine zS ?_ | refine zA fun _ => ?_ | refine zV ?_ | refine zC ?_ | refine zG ?_ | refine zU ?_ | refine zG0 ?_ | refine zU0 ?_ | refine zF ?_)
        | with_reducible (first | refine zX ?_ | refine zD fun _ => ?_ | refine zD0 ?_ | refine zN ?_ | refine zF0 ?_ | refine zX0 ?_ | refine z1 ?_ | refine z2 ?_ | refine z3 ?_ | refine z4 ?_ | refine z5 ?_ | refine z6 ?_ | refine z7 ?_ | refine z8 ?_ | refine y1 ?_ | refine y2 ?_ | refine y3 ?_ | refine y4 ?_ | refine y5 ?_ | refine y6 ?_ | refine y7 ?_ | refine y8 ?_ | refine Rt.p (fun _ => ?_) fun _ => ?_)
        | ((with_reducible apply w_ixM); (focus exact rfl); (focus exact rfl); case' hk => intro y hy) | ((with_reducible (first | apply w_val | apply q_ends)); (focus exact rfl)))
      refine q_loop (i + 1 + 1, _) ?_ ?_ (by repeat' (first | exact slots_nil | apply slots_cons | rfl | (rw [map_snoc]; rfl) | (rw [len_snoc]; rfl) | (rw [hS]; rfl) | (rw [hS, map_snoc]; rfl) | (refine int_eq ?_; (try dsimp only); omega) | (refine congrArg AV.bool ?_; simp_all; done))) (by exact ⟨congrArg (fun c => ((g8, Res.row [AV.slc 5 c (.own 32 _), .slc 4 (rR [r]) .full]) : Nat × Res)) (by rw [hG]; rfl), rfl, trivial⟩) (by repeat' (first | exact kept_nil | apply kept_cons | rfl)) (by repeat' (first | exact kept_nil | apply kept_cons | rfl))
      · dsimp only; omega
      · dsimp only; omega
  have hin : i = n := by omega
  subst hin
  obtain ⟨n, rfl⟩ : ∃ k, i = k + 1 := ⟨i - 1, by omega⟩
  repeat' (first
    | with_reducible (first | refine Rd.p ?_ | refine zE ?_ | refine zE0 ?_)
    | with_reducible (first | refine zI fun y hy => ?_ | refine zL ?_ | refine zS ?_ | refine zA fun _ => ?_ | refine zV ?_ | refine zC ?_ | refine zG ?_ | refine zU ?_ | refine zG0 ?_ | refine zU0 ?_ | refine zF ?_)
    | with_reducible (first | refine zX ?_ | refine zD fun _ => ?_ | refine zD0 ?_ | refine zN ?_ | refine zF0 ?_ | refine zX0 ?_ | refine z1 ?_ | refine z2 ?_ | refine z3 ?_ | refine z4 ?_ | refine z5 ?_ | refine z6 ?_ | refine z7 ?_ | refine z8 ?_ | refine y1 ?_ | refine y2 ?_ | refine y3 ?_ | refine y4 ?_ | refine y5 ?_ | refine y6 ?_ | refine y7 ?_ | refine y8 ?_ | refine Rt.p (fun _ => ?_) fun _ => ?_)
    | ((with_reducible apply w_ixM); (focus exact rfl); (focus exact rfl); case' hk => intro y hy) | ((with_reducible (first | apply w_val | apply q_ends)); (focus exact rfl)))
  refine w_loopK [1, 5, 8] [5] (fun x : List (List Int) × List (List Int) => ls = x.1 ++ x.2) (fun x => x.2.length) (fun x => [(11, .int .i64 x.1.length), (10, .int .i64 (x.1.filter fun l => keepsB (keptG (n + 1)) (atL l) r).length)]) (fun _ => (8, (g8, .row [keptO (n + 1) g, .slc 4 (rR [r]) .full])) :: keptS (n + 1) g) ([], ls) rfl ⟨rfl, rfl, trivial⟩ ⟨rfl, rfl, trivial⟩ ?_
  rintro ⟨pre, post⟩ hp2 e1 σ1
  dsimp only at hp2 ⊢
  have hlen := congrArg List.length hp2
  have hfl := List.length_filter_le (fun l => keepsB (keptG (n + 1)) (atL l) r) pre
  cases post with
  | nil =>
    simp only [List.append_nil, List.length_append, List.length_nil] at hlen hp2
    subst hp2
    repeat' (first
      | with_reducible (first | refine Rd.p ?_ | refine zE ?_ | refine zE0 ?_)
      | with_reducible (first | refine zI fun y hy => ?_ | refine zL ?_ | refine zS ?_ | refine zA fun _ => ?_ | refine zV ?_ | refine zC ?_ | refine zG ?_ | refine zU ?_ | refine zG0 ?_ | refine zU0 ?_ | refine zF ?_)
      | with_reducible (first | refine zX ?_ | refine zD fun _ => ?_ | refine zD0 ?_ | refine zN ?_ | refine zF0 ?_ | refine zX0 ?_ | refine z1 ?_ | refine z2 ?_ | refine z3 ?_ | refine z4 ?_ | refine z5 ?_ | refine z6 ?_ | refine z7 ?_ | refine z8 ?_ | refine y1 ?_ | refine y2 ?_ | refine y3 ?_ | refine y4 ?_ | refine y5 ?_ | refine y6 ?_ | refine y7 ?_ | refine y8 ?_ | refine Rt.p (fun _ => ?_) fun _ => ?_)
      | ((with_reducible apply w_ixM); (focus exact rfl); (focus exact rfl); case' hk => intro y hy) | ((with_reducible (first | apply w_val | apply q_ends)); (focus exact rfl)))
    rfl
  | cons l post =>
    simp only [List.length_append, List.length_cons] at hlen
    have hpl := hp l (by rw [hp2]; simp)
    have hll := hpl.len
    have hPr := Price_c (keptG (n + 1)) [r] l (by omega) (by simp) hsz (by omega)
    have hpp : priceP (keptG (n + 1)) [r] l = (some (plcF (brP (keptG (n + 1)) l) 0 [r]), prS (keptG (n + 1)) [r] l, 0) := by
      rw [priceP, if_pos hk, if_pos ⟨by rw [hgl]; exact hll, by rw [hgl]; exact (ordB_perm hll).2 hpl⟩]
    rw [hpp] at hPr
    dsimp only [optV] at hPr
    have hfs : ((pre ++ [l]).filter fun l => keepsB (keptG (n + 1)) (atL l) r) = (pre.filter fun l => keepsB (keptG (n + 1)) (atL l) r) ++ if keepsB (keptG (n + 1)) (atL l) r = true then [l] else [] := by
      rw [List.filter_append, List.filter_cons]; rfl
    cases hkb : keepsB (keptG (n + 1)) (atL l) r with
    | true =>
      have e1 : plcF (brP (keptG (n + 1)) l) 0 [r] = [] := by simp [plcF, brP, hkb]
      have e2 : prS (keptG (n + 1)) [r] l = 0 := by simp [prS, wsum, hkb]
      rw [e1, e2] at hPr
      rw [hkb, if_pos rfl] at hfs
      repeat' (first
        | with_reducible (first | refine Rd.p ?_ | refine zE ?_ | refine zE0 ?_)
        | (refine w_ixP hp2 rfl rfl ?_)
        | with_reducible (first | refine zI fun y hy => ?_ | refine zL ?_ | refine zS ?_ | refine zA fun _ => ?_ | refine zV ?_ | refine zC ?_ | refine zG ?_ | refine zU ?_ | refine zG0 ?_ | refine zU0 ?_ | refine zF ?_)
        | (refine ACall.wval (args' := [pA (keptG (n + 1)) [r], .slc 1 (iR l) .non]) (.cons (Sub.agg (.cons Sub.tag (.cons Sub.tag .nil))) (.cons (Sub.refl _) .nil)) hPr rfl rfl ?_)
        | with_reducible (first | refine zX ?_ | refine zD fun _ => ?_ | refine zD0 ?_ | refine zN ?_ | refine zF0 ?_ | refine zX0 ?_ | refine z1 ?_ | refine z2 ?_ | refine z3 ?_ | refine z4 ?_ | refine z5 ?_ | refine z6 ?_ | refine z7 ?_ | refine z8 ?_ | refine y1 ?_ | refine y2 ?_ | refine y3 ?_ | refine y4 ?_ | refine y5 ?_ | refine y6 ?_ | refine y7 ?_ | refine y8 ?_ | refine Rt.p (fun _ => ?_) fun _ => ?_)
        | ((with_reducible apply w_ixM); (focus exact rfl); (focus exact rfl); case' hk => intro y hy) | ((with_reducible (first | apply w_val | apply q_ends)); (focus exact rfl)))
      · exact ⟨trivial, by simp [inI]⟩
      · rename_i h; exfalso; simp at h
      · refine q_loop (pre ++ [l], post) ?_ ?_ (by exact ⟨int_eq (by simp), int_eq (by rw [hfs]; simp), trivial⟩) (by exact ⟨rfl, rfl, trivial⟩) (by repeat' (first | exact kept_nil | apply kept_cons | rfl)) (by repeat' (first | exact kept_nil | apply kept_cons | rfl))
        · rw [hp2]; simp
        · simp
      · rename_i h; exact absurd rfl h
    | false =>
      have e1 : plcF (brP (keptG (n + 1)) l) 0 [r] = [0] := by simp [plcF, brP, hkb]
      have e2 : prS (keptG (n + 1)) [r] l = r.weight := by simp [prS, wsum, hkb]
      rw [e1, e2] at hPr
      rw [hkb, if_neg (by simp), List.append_nil] at hfs
      repeat' (first
        | with_reducible (first | refine Rd.p ?_ | refine zE ?_ | refine zE0 ?_)
        | (refine w_ixP hp2 rfl rfl ?_)
        | with_reducible (first | refine zI fun y hy => ?_ | refine zL ?_ | refine zS ?_ | refine zA fun _ => ?_ | refine zV ?_ | refine zC ?_ | refine zG ?_ | refine zU ?_ | refine zG0 ?_ | refine zU0 ?_ | refine zF ?_)
        | (refine ACall.wval (args' := [pA (keptG (n + 1)) [r], .slc 1 (iR l) .non]) (.cons (Sub.agg (.cons Sub.tag (.cons Sub.tag .nil))) (.cons (Sub.refl _) .nil)) hPr rfl rfl ?_)
        | with_reducible (first | refine zX ?_ | refine zD fun _ => ?_ | refine zD0 ?_ | refine zN ?_ | refine zF0 ?_ | refine zX0 ?_ | refine z1 ?_ | refine z2 ?_ | refine z3 ?_ | refine z4 ?_ | refine z5 ?_ | refine z6 ?_ | refine z7 ?_ | refine z8 ?_ | refine y1 ?_ | refine y2 ?_ | refine y3 ?_ | refine y4 ?_ | refine y5 ?_ | refine y6 ?_ | refine y7 ?_ | refine y8 ?_ | refine Rt.p (fun _ => ?_) fun _ => ?_)
        | ((with_reducible apply w_ixM); (focus exact rfl); (focus exact rfl); case' hk => intro y hy) | ((with_reducible (first | apply w_val | apply q_ends)); (focus exact rfl)))
      · exact ⟨trivial, by unfold inI; simp; omega⟩
      · rename_i h; exfalso; simp at h
      · rename_i h; exfalso; simp at h
      · refine q_loop (pre ++ [l], post) ?_ ?_ (by exact ⟨int_eq (by simp), int_eq (by rw [hfs]), trivial⟩) (by exact ⟨rfl, rfl, trivial⟩) (by repeat' (first | exact kept_nil | apply kept_cons | rfl)) (by repeat' (first | exact kept_nil | apply kept_cons | rfl))
        · rw [hp2]; simp
        · simp
end Go.Abs
