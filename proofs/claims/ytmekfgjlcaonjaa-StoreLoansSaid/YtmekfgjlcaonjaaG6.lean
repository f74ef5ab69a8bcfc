/- A part of the proofs of the laws of this seat: contracts of the functions that they reach, each proved of the program's form in Lean. No condition beyond those that each contract names. -/
import Derived.Test.YtmekfgjlcaonjaaG5
import Derived.Test.YtmekfgjlcaonjaaG4
import Derived.Test.YtmekfgjlcaonjaaG3
import Derived.Test.YtmekfgjlcaonjaaG2
import Derived.Test.YtmekfgjlcaonjaaG1
import Derived.Test.YtmekfgjlcaonjaaD8
import Derived.Test.YtmekfgjlcaonjaaC14
import Derived.Test.YtmekfgjlcaonjaaC13
import Derived.Test.YtmekfgjlcaonjaaC12
import Derived.Test.YtmekfgjlcaonjaaC11
import Derived.Test.YtmekfgjlcaonjaaC10
import Derived.Test.YtmekfgjlcaonjaaC9
import Derived.Test.YtmekfgjlcaonjaaC8
import Derived.Test.YtmekfgjlcaonjaaC7
import Derived.Test.YtmekfgjlcaonjaaC5
import Derived.Test.YtmekfgjlcaonjaaC4
import Derived.Test.YtmekfgjlcaonjaaC2
import Derived.Test.YtmekfgjlcaonjaaC1
import Derived.Test.YtmekfgjlcaonjaaB
set_option linter.unusedVariables false
set_option linter.unusedSimpArgs false
set_option maxRecDepth 20000
set_option maxHeartbeats 2000000
namespace Go.Abs
open Go.Proofs
/-- aloeswood/aloeswoodkit.LoansOf -/
def ir65 : IFn :=
  ⟨37, [(4, none)], (.seq (.ops [⟨(some 4), none, (.mov (.k .nsl))⟩])
  (.seq (.ops [⟨(some 5), none, (.nil 4 5)⟩])
  (.seq (.seq (.ops [⟨(some 8), none, (.mov (.t 0))⟩,
    ⟨(some 9), none, (.mov (.t 1))⟩,
    ⟨(some 10), none, (.bin .add (.t 9) (.k (.int .i64 1)))⟩,
    ⟨(some 11), none, (.callF 20 [(.t 8), (.t 10)])⟩,
    ⟨(some 6), none, (.mov (.t 11))⟩])
  (.blk 0 (.loop (.seq (.seq (.ops [⟨(some 12), none, (.mov (.t 6))⟩,
        ⟨(some 13), none, (.bin .gtr (.t 12) (.k (.int .i64 0)))⟩])
      (.cnd (.t 13)
        .skip
        (.exit 0)))
      (.seq (.blk 1 (.seq (.ops [⟨(some 16), none, (.mov (.t 0))⟩,
          ⟨(some 17), none, (.callF 20 [(.t 16), (.k (.int .i64 20))])⟩,
          ⟨(some 7), none, (.mov (.t 17))⟩])
        (.ops [⟨(some 18), none, (.mov (.t 5))⟩,
          ⟨(some 19), none, (.mov (.t 0))⟩,
          ⟨(some 20), none, (.callF 20 [(.t 19), (.k (.int .i64 3))])⟩,
          ⟨(some 21), none, (.mov (.t 7))⟩,
          ⟨(some 22), none, (.mov (.t 7))⟩,
          ⟨(some 23), none, (.mov (.t 0))⟩,
          ⟨(some 24), none, (.callF 20 [(.t 23), (.k (.int .i64 8))])⟩,
          ⟨(some 25), none, (.bin .add (.t 22) (.t 24))⟩,
          ⟨(some 26), none, (.mov (.t 0))⟩,
          ⟨(some 27), none, (.mov (.t 0))⟩,
          ⟨(some 28), none, (.callF 20 [(.t 27), (.k (.int .i64 4))])⟩,
          ⟨(some 29), none, (.mov (.t 0))⟩,
          ⟨(some 30), none, (.callF 20 [(.t 29), (.k (.int .i64 20))])⟩,
          ⟨(some 31), none, (.bsl 1 [[(.int .i64 0)], [(.int .i64 0)], [(.int .i64 0)]] [(0, (.k (.int .i64 0))), (1, (.t 28)), (2, (.t 30))])⟩,
          ⟨(some 32), none, (.callF 90 [(.t 26), (.t 31)])⟩,
          ⟨(some 33), none, (.bld [(.int .i64 0), (.int .i64 0), (.int .i64 0), (.int .i64 0)] [(0, 1, (.t 20)), (1, 1, (.t 21)), (2, 1, (.t 25)), (3, 1, (.t 32))])⟩,
          ⟨(some 34), none, (.bsl 4 [[(.int .i64 0), (.int .i64 0), (.int .i64 0), (.int .i64 0)]] [(0, (.t 33))])⟩,
          ⟨(some 35), none, (.app 4 32 (.t 18) (.t 34) 5)⟩,
          ⟨(some 5), none, (.mov (.t 35))⟩])))
      (.ops [⟨(some 14), none, (.mov (.t 6))⟩,
        ⟨(some 15), none, (.bin .sub (.t 14) (.k (.int .i64 1)))⟩,
        ⟨(some 6), none, (.mov (.t 15))⟩]))))))
  (.seq (.ops [⟨(some 36), none, (.mov (.t 5))⟩,
    ⟨(some 4), none, (.mov (.t 36))⟩])
  .ret))))⟩
def hint65 (P : Program) : Hint := { site := [(35, 5)], nils := [(5, 4)], frz := [], mve := [], wr := [] }
/-- aloeswood/aloeswoodkit.OwnLoans -/
def ir66 : IFn :=
  ⟨6, [(2, none)], (.seq (.ops [⟨(some 2), none, (.nil 4 2)⟩])
  (.seq (.ops [⟨(some 3), none, (.bsl 4 [] [])⟩,
    ⟨(some 4), none, (.mov (.t 0))⟩,
    ⟨(some 5), none, (.app 4 32 (.t 3) (.t 4) 2)⟩,
    ⟨(some 2), none, (.mov (.t 5))⟩])
  .ret))⟩
def hint66 (P : Program) : Hint := { site := [(5, 2)], nils := [(2, 4)], frz := [], mve := [], wr := [] }
/-- aloeswood/aloeswoodkit.EqLoans -/
def ir69 : IFn :=
  ⟨26, [(4, none)], (.seq (.ops [⟨(some 4), none, (.mov (.k (.bool false)))⟩])
  (.seq (.seq (.ops [⟨(some 6), none, (.mov (.t 0))⟩,
    ⟨(some 7), none, (.len false (.t 6))⟩,
    ⟨(some 8), none, (.mov (.t 1))⟩,
    ⟨(some 9), none, (.len false (.t 8))⟩,
    ⟨(some 10), none, (.bin .neq (.t 7) (.t 9))⟩])
  (.cnd (.t 10)
    (.seq (.ops [⟨(some 4), none, (.mov (.k (.bool false)))⟩])
    .ret)
    .skip))
  (.seq (.seq (.ops [⟨(some 5), none, (.mov (.k (.int .i64 0)))⟩])
  (.blk 0 (.loop (.seq (.seq (.ops [⟨(some 11), none, (.mov (.t 5))⟩,
        ⟨(some 12), none, (.mov (.t 0))⟩,
        ⟨(some 13), none, (.len false (.t 12))⟩,
        ⟨(some 14), none, (.bin .lss (.t 11) (.t 13))⟩])
      (.cnd (.t 14)
        .skip
        (.exit 0)))
      (.seq (.blk 1 (.seq (.ops [⟨(some 17), none, (.mov (.t 0))⟩,
          ⟨(some 18), none, (.mov (.t 5))⟩,
          ⟨(some 19), none, (.ixA 4 (.t 17) (.t 18))⟩,
          ⟨(some 20), none, (.ld 4 true (.t 19))⟩,
          ⟨(some 21), none, (.mov (.t 1))⟩,
          ⟨(some 22), none, (.mov (.t 5))⟩,
          ⟨(some 23), none, (.ixA 4 (.t 21) (.t 22))⟩,
          ⟨(some 24), none, (.ld 4 true (.t 23))⟩,
          ⟨(some 25), none, (.eqn (.flat [.i, .i, .i, .i]) true (.t 20) (.t 24))⟩])
        (.cnd (.t 25)
          (.seq (.ops [⟨(some 4), none, (.mov (.k (.bool false)))⟩])
          .ret)
          .skip)))
      (.ops [⟨(some 15), none, (.mov (.t 5))⟩,
        ⟨(some 16), none, (.bin .add (.t 15) (.k (.int .i64 1)))⟩,
        ⟨(some 5), none, (.mov (.t 16))⟩]))))))
  (.seq (.ops [⟨(some 4), none, (.mov (.k (.bool true)))⟩])
  .ret))))⟩
def hint69 (P : Program) : Hint := {}
/-- aloeswood/aloeswoodlaw09.StoreLoans -/
def ir13 : IFn :=
  ⟨73, [(4, none)], (.seq (.ops [⟨(some 4), none, (.mov (.k (.bool false)))⟩])
  (.seq (.seq (.ops [⟨(some 14), none, (.mov (.t 0))⟩,
    ⟨(some 15), none, (.len false (.t 14))⟩,
    ⟨(some 16), none, (.bin .gtr (.t 15) (.k (.int .i64 20)))⟩])
  (.cnd (.t 16)
    (.seq (.ops [⟨(some 17), none, (.callF 16 [])⟩,
      ⟨(some 4), none, (.mov (.t 17))⟩])
    .ret)
    .skip))
  (.seq (.ops [⟨(some 18), none, (.mov (.t 0))⟩,
    ⟨(some 19), none, (.mov (.t 1))⟩,
    ⟨(some 20), none, (.callF 17 [(.t 19)])⟩,
    ⟨(some 21), none, (.callF 65 [(.t 20), (.k (.int .i64 10))])⟩,
    ⟨(some 22), none, (.bsl 1 [[.nsl], [.nsl]] [(0, (.t 18)), (1, (.t 21))])⟩,
    ⟨(some 5), none, (.mov (.t 22))⟩])
  (.seq (.seq (.ops [⟨(some 6), none, (.mov (.k (.int .i64 0)))⟩])
  (.blk 0 (.loop (.seq (.seq (.ops [⟨(some 23), none, (.mov (.t 6))⟩,
        ⟨(some 24), none, (.mov (.t 5))⟩,
        ⟨(some 25), none, (.len false (.t 24))⟩,
        ⟨(some 26), none, (.bin .lss (.t 23) (.t 25))⟩])
      (.cnd (.t 26)
        .skip
        (.exit 0)))
      (.seq (.blk 1 (.seq (.ops [⟨(some 29), none, (.mov (.t 5))⟩,
          ⟨(some 30), none, (.mov (.t 6))⟩,
          ⟨(some 31), none, (.ixA 1 (.t 29) (.t 30))⟩,
          ⟨(some 32), none, (.ld 1 false (.t 31))⟩,
          ⟨(some 33), none, (.callF 66 [(.t 32)])⟩,
          ⟨(some 7), none, (.mov (.t 33))⟩])
        (.seq (.ops [⟨(some 35), none, (.mov (.t 7))⟩,
          ⟨(some 36), none, (.callF 67 [(.t 35)])⟩,
          ⟨(some 34), none, (.mov (.t 36))⟩,
          ⟨(some 37), none, (.ext 0 (.t 34))⟩,
          ⟨(some 38), none, (.ext 1 (.t 34))⟩,
          ⟨(some 39), none, (.ext 2 (.t 34))⟩,
          ⟨(some 8), none, (.mov (.t 37))⟩,
          ⟨(some 9), none, (.mov (.t 38))⟩,
          ⟨(some 10), none, (.mov (.t 39))⟩])
        (.seq (.ops [⟨(some 41), none, (.mov (.t 5))⟩,
          ⟨(some 42), none, (.mov (.t 6))⟩,
          ⟨(some 43), none, (.ixA 1 (.t 41) (.t 42))⟩,
          ⟨(some 44), none, (.ld 1 false (.t 43))⟩,
          ⟨(some 45), none, (.callF 68 [(.t 44)])⟩,
          ⟨(some 40), none, (.mov (.t 45))⟩,
          ⟨(some 46), none, (.ext 0 (.t 40))⟩,
          ⟨(some 47), none, (.ext 1 (.t 40))⟩,
          ⟨(some 48), none, (.ext 2 (.t 40))⟩,
          ⟨(some 11), none, (.mov (.t 46))⟩,
          ⟨(some 12), none, (.mov (.t 47))⟩,
          ⟨(some 13), none, (.mov (.t 48))⟩])
        (.seq (.ops [⟨(some 49), none, (.mov (.t 9))⟩,
          ⟨(some 50), none, (.mov (.t 12))⟩,
          ⟨(some 51), none, (.bin .neq (.t 49) (.t 50))⟩,
          ⟨(some 52), none, (.mov (.t 51))⟩,
          ⟨(some 53), (some (52, false)), (.mov (.t 10))⟩,
          ⟨(some 54), (some (52, false)), (.mov (.t 13))⟩,
          ⟨(some 55), (some (52, false)), (.bin .neq (.t 53) (.t 54))⟩,
          ⟨(some 56), none, (.pick (.t 52) (.k (.bool true)) (.t 55))⟩,
          ⟨(some 57), none, (.mov (.t 56))⟩,
          ⟨(some 58), (some (57, false)), (.mov (.t 8))⟩,
          ⟨(some 59), (some (57, false)), (.mov (.t 11))⟩,
          ⟨(some 60), (some (57, false)), (.callF 40 [(.t 58), (.t 59)])⟩,
          ⟨(some 61), (some (57, false)), (.not (.t 60))⟩,
          ⟨(some 62), none, (.pick (.t 57) (.k (.bool true)) (.t 61))⟩,
          ⟨(some 63), none, (.mov (.t 62))⟩,
          ⟨(some 64), (some (63, false)), (.mov (.t 7))⟩,
          ⟨(some 65), (some (63, false)), (.mov (.t 5))⟩,
          ⟨(some 66), (some (63, false)), (.mov (.t 6))⟩,
          ⟨(some 67), (some (63, false)), (.ixA 1 (.t 65) (.t 66))⟩,
          ⟨(some 68), (some (63, false)), (.ld 1 false (.t 67))⟩,
          ⟨(some 69), (some (63, false)), (.callF 69 [(.t 64), (.t 68)])⟩,
          ⟨(some 70), (some (63, false)), (.not (.t 69))⟩,
          ⟨(some 71), none, (.pick (.t 63) (.k (.bool true)) (.t 70))⟩])
        (.cnd (.t 71)
          (.seq (.ops [⟨(some 4), none, (.mov (.k (.bool false)))⟩])
          .ret)
          .skip))))))
      (.ops [⟨(some 27), none, (.mov (.t 6))⟩,
        ⟨(some 28), none, (.bin .add (.t 27) (.k (.int .i64 1)))⟩,
        ⟨(some 6), none, (.mov (.t 28))⟩]))))))
  (.seq (.ops [⟨(some 72), none, (.callF 16 [])⟩,
    ⟨(some 4), none, (.mov (.t 72))⟩])
  .ret)))))⟩
def hint13 (P : Program) : Hint := {}
theorem lonE_of {g : Lon} (h1 : 0 ≤ g.th ∧ g.th ≤ 49) (h2 : 0 ≤ g.fr ∧ g.fr ≤ g.to ∧ g.to ≤ 100000) (h3 : 0 ≤ g.wo ∧ g.wo ≤ 1000) : lonE g = 0 := by
  unfold lonE
  rw [if_pos (by simp only [Bool.and_eq_true, inB_t]; omega), if_neg (by omega)]
theorem loansOf_c (g : Nat) (w : Int) (k : Int) (hk : 0 ≤ k ∧ k ≤ 12) : RawC Try.prog 65 [.ref 1000 g 0, .int .i64 k] (BoxS g w) (BoxR g fun av => ∃ l : List Lon, av = .slc 4 (oR l) .non ∧ l.length ≤ k ∧ ∀ x ∈ l, lonE x = 0) := by
  refine RawC.walk (H := hint65 Try.prog) ir65 Try.func65 rfl rfl rfl ?_
  unfold ir65
  repeat' (first
    | with_reducible (first | refine Rd.p ?_ | refine w_alt ?_ ?_ | refine zE ?_ | refine zE0 ?_)
    | with_reducible (first | refine zI fun y hy => ?_ | refine zL ?_ | refine zS ?_ | refine zA fun _ => ?_ | refine zV ?_ | refine zC ?_ | refine zG ?_ | refine zU ?_ | refine zG0 ?_ | refine zU0 ?_ | refine zF ?_)
    | ((with_reducible refine acall_id ?_); refine ACall.box (upp_c _ _ (k + 1) (by omega) (by omega)) rfl rfl rfl ?_; rintro _ _ ⟨n, rfl, hn1, hn2⟩)
    | with_reducible (first | refine zX ?_ | refine zD fun _ => ?_ | refine zD0 ?_ | refine zN ?_ | refine zF0 ?_ | refine zX0 ?_ | refine z1 ?_ | refine z2 ?_ | refine z3 ?_ | refine z4 ?_ | refine z5 ?_ | refine z6 ?_ | refine z7 ?_ | refine z8 ?_ | refine y1 ?_ | refine y2 ?_ | refine y3 ?_ | refine y4 ?_ | refine y5 ?_ | refine y6 ?_ | refine y7 ?_ | refine y8 ?_ | refine Rt.p (fun _ => ?_) fun _ => ?_)
    | ((with_reducible apply w_ixM); (focus exact rfl); (focus exact rfl); case' hk => intro y hy) | ((with_reducible (first | apply w_val | apply q_ends)); (focus exact rfl)))
  rename_i g5 w1
  refine w_loopK [0] [] (fun x : List Lon × Nat × Int => x.1.length ≤ n ∧ ∀ y ∈ x.1, lonE y = 0) (fun x => (n - x.1.length).toNat) (fun x => [(6, .int .i64 (n - x.1.length)), (5, .slc 4 (oR x.1) (.own 5 x.2.1))])
    (fun x => [(1000, (g, .row [.int .u64 x.2.2])), (5, (x.2.1, .row []))]) ([], g5, w1) ⟨by show ((([] : List Lon).length : Nat) : Int) ≤ n; simp; omega, fun y hy => by cases hy⟩ ⟨by show AV.int .i64 _ = AV.int .i64 _; refine int_eq ?_; simp, rfl, trivial⟩ (by exact ⟨rfl, rfl, trivial⟩) ?_
  rintro ⟨xs, g5, w⟩ ⟨hl, hx⟩ e σ
  dsimp only at hl hx ⊢
  by_cases hlt : (xs.length : Int) < n
  · have hsn : ∀ z, (xs ++ [z]).length = xs.length + 1 := fun z => by simp
    repeat' (first
      | with_reducible (first | refine Rd.p ?_ | refine w_alt ?_ ?_ | refine zE ?_ | refine zE0 ?_)
      | with_reducible (first | refine zI fun y hy => ?_ | refine zL ?_ | refine zS ?_ | refine zA fun _ => ?_ | refine zV ?_ | refine zC ?_ | refine zG ?_ | refine zU ?_ | refine zG0 ?_ | refine zU0 ?_ | refine zF ?_)
      | ((with_reducible refine acall_id ?_); refine ACall.box (upp_c _ _ 20 (by omega) (by omega)) rfl rfl rfl ?_; rintro _ _ ⟨z, rfl, hz1, hz2⟩)
      | ((with_reducible refine acall_id ?_); refine ACall.box (upp_c _ _ 3 (by omega) (by omega)) rfl rfl rfl ?_; rintro _ _ ⟨z3, rfl, hz3, hz4⟩)
      | ((with_reducible refine acall_id ?_); refine ACall.box (upp_c _ _ 8 (by omega) (by omega)) rfl rfl rfl ?_; rintro _ _ ⟨z5, rfl, hz5, hz6⟩)
      | ((with_reducible refine acall_id ?_); refine ACall.box (upp_c _ _ 4 (by omega) (by omega)) rfl rfl rfl ?_; rintro _ _ ⟨z7, rfl, hz7, hz8⟩)
      | ((with_reducible refine acall_id ?_); refine ACall.box (pick_c _ _ [0, _, _] (by simp) (by simp)) rfl rfl rfl ?_; rintro _ _ ⟨p, rfl, hp⟩)
      | with_reducible (first | refine zX ?_ | refine zD fun _ => ?_ | refine zD0 ?_ | refine zN ?_ | refine zF0 ?_ | refine zX0 ?_ | refine z1 ?_ | refine z2 ?_ | refine z3 ?_ | refine z4 ?_ | refine z5 ?_ | refine z6 ?_ | refine z7 ?_ | refine z8 ?_ | refine y1 ?_ | refine y2 ?_ | refine y3 ?_ | refine y4 ?_ | refine y5 ?_ | refine y6 ?_ | refine y7 ?_ | refine y8 ?_ | refine Rt.p (fun _ => ?_) fun _ => ?_)
      | ((with_reducible apply w_ixM); (focus exact rfl); (focus exact rfl); case' hk => intro y hy) | ((with_reducible (first | apply w_val | apply q_ends)); (focus exact rfl)))
    rename_i _ z0 hz01 hz02 _ _ _ _ _ _
    refine q_loop (xs ++ [⟨z3, z0, z0 + z5, p⟩], _, _) ⟨by dsimp only; rw [hsn]; omega, fun y hy => ?_⟩ (by dsimp only; rw [hsn]; omega) (slots_cons (by show AV.int .i64 _ = AV.int .i64 _; refine int_eq ?_; dsimp only; rw [hsn]; omega) (slots_cons (by simp; rfl) slots_nil)) (by exact ⟨rfl, rfl, trivial⟩) (by repeat' (first | exact kept_nil | apply kept_cons | rfl)) (by repeat' (first | exact kept_nil | apply kept_cons | rfl))
    rcases List.mem_append.1 hy with hy | hy
    · exact hx y hy
    · rw [List.mem_singleton] at hy
      subst hy
      simp only [List.mem_cons, List.not_mem_nil, or_false] at hp
      exact lonE_of (by dsimp only; omega) (by dsimp only; omega) (by dsimp only; omega)
  · repeat' (first
      | with_reducible (first | refine Rd.p ?_ | refine w_alt ?_ ?_ | refine zE ?_ | refine zE0 ?_)
      | with_reducible (first | refine zI fun y hy => ?_ | refine zL ?_ | refine zS ?_ | refine zA fun _ => ?_ | refine zV ?_ | refine zC ?_ | refine zG ?_ | refine zU ?_ | refine zG0 ?_ | refine zU0 ?_ | refine zF ?_)
      | with_reducible (first | refine zX ?_ | refine zD fun _ => ?_ | refine zD0 ?_ | refine zN ?_ | refine zF0 ?_ | refine zX0 ?_ | refine z1 ?_ | refine z2 ?_ | refine z3 ?_ | refine z4 ?_ | refine z5 ?_ | refine z6 ?_ | refine z7 ?_ | refine z8 ?_ | refine y1 ?_ | refine y2 ?_ | refine y3 ?_ | refine y4 ?_ | refine y5 ?_ | refine y6 ?_ | refine y7 ?_ | refine y8 ?_ | refine Rt.p (fun _ => ?_) fun _ => ?_)
      | ((with_reducible apply w_ixM); (focus exact rfl); (focus exact rfl); case' hk => intro y hy) | ((with_reducible (first | apply w_val | apply q_ends)); (focus exact rfl)))
    exact ⟨_, ⟨xs, rfl, by omega, hx⟩, rfl⟩
theorem ownLoans_c (l : List Lon) (hl : l.length ≤ 1000) : Fn0 Try.prog 66 [.slc 4 (oR l) .non] (fun v => v = .slc 4 (oR l) .non) := by
  refine RawC.walk (H := hint66 Try.prog) ir66 Try.func66 rfl rfl rfl ?_
  unfold ir66
  repeat' (first
    | with_reducible (first | refine Rd.p ?_ | refine w_alt ?_ ?_ | refine zE ?_ | refine zE0 ?_)
    | with_reducible (first | refine zI fun y hy => ?_ | refine zL ?_ | refine zS ?_ | refine zA fun _ => ?_ | refine zV ?_ | refine zC ?_ | refine zG ?_ | refine zU ?_ | refine zG0 ?_ | refine zU0 ?_ | refine zF ?_)
    | with_reducible (first | refine zX ?_ | refine zD fun _ => ?_ | refine zD0 ?_ | refine zN ?_ | refine zF0 ?_ | refine zX0 ?_ | refine z1 ?_ | refine z2 ?_ | refine z3 ?_ | refine z4 ?_ | refine z5 ?_ | refine z6 ?_ | refine z7 ?_ | refine z8 ?_ | refine y1 ?_ | refine y2 ?_ | refine y3 ?_ | refine y4 ?_ | refine y5 ?_ | refine y6 ?_ | refine y7 ?_ | refine y8 ?_ | refine Rt.p (fun _ => ?_) fun _ => ?_)
    | ((with_reducible apply w_ixM); (focus exact rfl); (focus exact rfl); case' hk => intro y hy) | ((with_reducible (first | apply w_val | apply q_ends)); (focus exact rfl)))
  rfl
theorem eqLoans_c (l : List Lon) (h : l.length < 2 ^ 62) : Fn0 Try.prog 69 [.slc 4 (oR l) .non, .slc 4 (oR l) .non] (fun v => v = .bool true) := by
  refine RawC.walk (H := hint69 Try.prog) ir69 Try.func69 rfl (by kernel_rfl) rfl ?_
  unfold ir69
  repeat' (first
    | with_reducible (first | refine Rd.p ?_ | refine w_alt ?_ ?_ | refine zE ?_ | refine zE0 ?_)
    | with_reducible (first | refine zI fun y hy => ?_ | refine zL ?_ | refine zS ?_ | refine zA fun _ => ?_ | refine zV ?_ | refine zC ?_ | refine zG ?_ | refine zU ?_ | refine zG0 ?_ | refine zU0 ?_ | refine zF ?_)
    | with_reducible (first | refine zX ?_ | refine zD fun _ => ?_ | refine zD0 ?_ | refine zN ?_ | refine zF0 ?_ | refine zX0 ?_ | refine z1 ?_ | refine z2 ?_ | refine z3 ?_ | refine z4 ?_ | refine z5 ?_ | refine z6 ?_ | refine z7 ?_ | refine z8 ?_ | refine y1 ?_ | refine y2 ?_ | refine y3 ?_ | refine y4 ?_ | refine y5 ?_ | refine y6 ?_ | refine y7 ?_ | refine y8 ?_ | refine Rt.p (fun _ => ?_) fun _ => ?_)
    | ((with_reducible apply w_ixM); (focus exact rfl); (focus exact rfl); case' hk => intro y hy) | ((with_reducible (first | apply w_val | apply q_ends)); (focus exact rfl)))
  refine w_loopK [0, 1] [] (fun x : List Lon × List Lon => l = x.1 ++ x.2) (fun x => x.2.length) (fun x => [(5, .int .i64 x.1.length)]) (fun _ => []) ([], l) rfl ⟨rfl, trivial⟩ trivial ?_
  rintro ⟨pre, post⟩ hpp e σ
  dsimp only at hpp ⊢
  have hlen := congrArg List.length hpp
  rw [List.length_append] at hlen
  cases post with
  | nil =>
    simp only [List.length_nil] at hlen
    repeat' (first
      | with_reducible (first | refine Rd.p ?_ | refine w_alt ?_ ?_ | refine zE ?_ | refine zE0 ?_)
      | with_reducible (first | refine zI fun y hy => ?_ | refine zL ?_ | refine zS ?_ | refine zA fun _ => ?_ | refine zV ?_ | refine zC ?_ | refine zG ?_ | refine zU ?_ | refine zG0 ?_ | refine zU0 ?_ | refine zF ?_)
      | with_reducible (first | refine zX ?_ | refine zD fun _ => ?_ | refine zD0 ?_ | refine zN ?_ | refine zF0 ?_ | refine zX0 ?_ | refine z1 ?_ | refine z2 ?_ | refine z3 ?_ | refine z4 ?_ | refine z5 ?_ | refine z6 ?_ | refine z7 ?_ | refine z8 ?_ | refine y1 ?_ | refine y2 ?_ | refine y3 ?_ | refine y4 ?_ | refine y5 ?_ | refine y6 ?_ | refine y7 ?_ | refine y8 ?_ | refine Rt.p (fun _ => ?_) fun _ => ?_)
      | ((with_reducible apply w_ixM); (focus exact rfl); (focus exact rfl); case' hk => intro y hy) | ((with_reducible (first | apply w_val | apply q_ends)); (focus exact rfl)))
    rfl
  | cons y post =>
    simp only [List.length_cons] at hlen
    repeat' (first
      | with_reducible (first | refine Rd.p ?_ | refine w_alt ?_ ?_ | refine zE ?_ | refine zE0 ?_)
      | (refine w_ixP hpp rfl rfl ?_)
      | with_reducible (first | refine zI fun y hy => ?_ | refine zL ?_ | refine zS ?_ | refine zA fun _ => ?_ | refine zV ?_ | refine zC ?_ | refine zG ?_ | refine zU ?_ | refine zG0 ?_ | refine zU0 ?_ | refine zF ?_)
      | with_reducible (first | refine zX ?_ | refine zD fun _ => ?_ | refine zD0 ?_ | refine zN ?_ | refine zF0 ?_ | refine zX0 ?_ | refine z1 ?_ | refine z2 ?_ | refine z3 ?_ | refine z4 ?_ | refine z5 ?_ | refine z6 ?_ | refine z7 ?_ | refine z8 ?_ | refine y1 ?_ | refine y2 ?_ | refine y3 ?_ | refine y4 ?_ | refine y5 ?_ | refine y6 ?_ | refine y7 ?_ | refine y8 ?_ | refine Rt.p (fun _ => ?_) fun _ => ?_)
      | ((with_reducible apply w_ixM); (focus exact rfl); (focus exact rfl); case' hk => intro y hy) | ((with_reducible (first | apply w_val | apply q_ends)); (focus exact rfl)))
    all_goals first
      | (refine q_loop (pre ++ [y], post) (by show l = _; rw [hpp]; simp) (by simp) (slots_cons (by show AV.int .i64 _ = AV.int .i64 _; refine int_eq ?_; simp) slots_nil) trivial (by repeat' (first | exact kept_nil | apply kept_cons | rfl)) (by repeat' (first | exact kept_nil | apply kept_cons | rfl)))
      | (exfalso; simp_all; done)
theorem Sub.tupG {l m : List AV} (h : SubL l m) : Sub (.tup l) (.tup m) := fun G v ⟨vs, h1, h2⟩ => ⟨vs, h1, SubL.rel h h2⟩
theorem bS_sub {b : List Int} {o : Option Unit} (h : o = none → b = []) : Sub (bS b o) (.slc 1 (iR b) .non) := by
  rcases o with _ | u
  · obtain rfl := h rfl
    exact Sub.nil
  · exact Sub.refl _
theorem Lend_w (l : List Lon) (hl : l.length < 2 ^ 62) : Fn0 Try.prog 67 [.slc 4 (oR l) .non] (fun v => v = .tup [.slc 1 (iR (lendV l).1) .non, .int .i64 (lendV l).2, .int .i64 (lendE l)]) :=
  RawC.sub (Lend_s l hl) fun a _ ⟨o, ho, h⟩ => ⟨_, by rw [h]; exact Sub.tupG (.cons (bS_sub ho) (.cons (Sub.refl _) (.cons (Sub.refl _) .nil))), rfl⟩
theorem rLend_w (l : List Lon) (hl : l.length < 2 ^ 62) : Fn0 Try.prog 68 [.slc 4 (oR l) .non] (fun v => v = .tup [.slc 1 (iR (lendV l).1) .non, .int .i64 (lendV l).2, .int .i64 (lendE l)]) :=
  RawC.sub (rLend_s l hl) fun a _ ⟨o, ho, h⟩ => ⟨_, by rw [h]; exact Sub.tupG (.cons (bS_sub ho) (.cons (Sub.refl _) (.cons (Sub.refl _) .nil))), rfl⟩
theorem lendV_len (l : List Lon) (h : l.length < 2 ^ 62) : (lendV l).1.length < 2 ^ 62 := by
  by_cases hE : lendE l = 0
  · obtain ⟨set, _, _, h2⟩ := lendV_some hE
    rw [h2]
    exact Nat.lt_of_le_of_lt (bitsL_len _ _) h
  · rw [lendV, if_neg hE]; simp
theorem loans_c (l : List Lon) (nums : List Int) (hl : l.length < 2 ^ 63) (hn : nums.length < 2 ^ 62) :
    Fn0 Try.prog 13 [.slc 4 (oR l) .non, .slc 1 (iR nums) .non] (fun v => v = .bool true) := by
  by_cases hpl : 20 < l.length
  · refine RawC.walk (H := hint13 Try.prog) ir13 Try.func13 rfl rfl rfl ?_
    unfold ir13
    repeat' (first
      | with_reducible (first | refine Rd.p ?_ | refine w_alt ?_ ?_ | refine zE ?_ | refine zE0 ?_)
      | with_reducible (first | refine zI fun y hy => ?_ | refine zL ?_ | refine zS ?_ | refine zA fun _ => ?_ | refine zV ?_ | refine zC ?_ | refine zG ?_ | refine zU ?_ | refine zG0 ?_ | refine zU0 ?_ | refine zF ?_)
      | ((with_reducible refine acall_id ?_); refine ACall.val wake_s rfl rfl ?_)
      | with_reducible (first | refine zX ?_ | refine zD fun _ => ?_ | refine zD0 ?_ | refine zN ?_ | refine zF0 ?_ | refine zX0 ?_ | refine z1 ?_ | refine z2 ?_ | refine z3 ?_ | refine z4 ?_ | refine z5 ?_ | refine z6 ?_ | refine z7 ?_ | refine z8 ?_ | refine y1 ?_ | refine y2 ?_ | refine y3 ?_ | refine y4 ?_ | refine y5 ?_ | refine y6 ?_ | refine y7 ?_ | refine y8 ?_ | refine Rt.p (fun _ => ?_) fun _ => ?_)
      | ((with_reducible apply w_ixM); (focus exact rfl); (focus exact rfl); case' hk => intro y hy) | ((with_reducible (first | apply w_val | apply q_ends)); (focus exact rfl)))
    rfl
  refine RawC.walk (H := hint13 Try.prog) ir13 Try.func13 rfl rfl rfl ?_
  unfold ir13
  repeat' (first
    | with_reducible (first | refine Rd.p ?_ | refine w_alt ?_ ?_ | refine zE ?_ | refine zE0 ?_)
    | with_reducible (first | refine zI fun y hy => ?_ | refine zL ?_ | refine zS ?_ | refine zA fun _ => ?_ | refine zV ?_ | refine zC ?_ | refine zG ?_ | refine zU ?_ | refine zG0 ?_ | refine zU0 ?_ | refine zF ?_)
    | ((with_reducible refine acall_id ?_); refine ACall.liftS (boxOf_s nums hn) [] (some 6) rfl rfl rfl trivial (fun _ => rfl) ?_; rintro ⟨gb, w⟩ _ rfl)
    | ((with_reducible refine acall_id ?_); refine ACall.box (loansOf_c _ _ 10 (by omega)) rfl rfl rfl ?_; rintro _ _ ⟨l2, rfl, hl2, hx2⟩)
    | with_reducible (first | refine zX ?_ | refine zD fun _ => ?_ | refine zD0 ?_ | refine zN ?_ | refine zF0 ?_ | refine zX0 ?_ | refine z1 ?_ | refine z2 ?_ | refine z3 ?_ | refine z4 ?_ | refine z5 ?_ | refine z6 ?_ | refine z7 ?_ | refine z8 ?_ | refine y1 ?_ | refine y2 ?_ | refine y3 ?_ | refine y4 ?_ | refine y5 ?_ | refine y6 ?_ | refine y7 ?_ | refine y8 ?_ | refine Rt.p (fun _ => ?_) fun _ => ?_)
    | ((with_reducible apply w_ixM); (focus exact rfl); (focus exact rfl); case' hk => intro y hy) | ((with_reducible (first | apply w_val | apply q_ends)); (focus exact rfl)))
  have hS3 : ∀ x ∈ [l, l2], x.length ≤ 20 := fun x hx => by
    have : x = l ∨ x = l2 := by simpa using hx
    rcases this with rfl | rfl <;> omega
  obtain ⟨SS, hSS⟩ : ∃ SS, SS = [l, l2] := ⟨_, rfl⟩
  rw [← hSS] at hS3
  have l1 : SS.length = 2 := by rw [hSS]; rfl
  refine w_loopK [] [] (fun i : Nat => i ≤ 2) (fun i => 2 - i) (fun i => [(6, .int .i64 i), (5, .slc 1 (SS.map fun l => [.slc 4 (oR l) .non]) .full)]) (fun _ => []) 0 (by show (0 : Nat) ≤ 2; omega) ⟨rfl, by rw [hSS]; rfl, trivial⟩ trivial ?_
  rintro i hi e σ
  try dsimp only at hi ⊢
  by_cases hi3 : i < 2
  case neg =>
    obtain rfl : i = 2 := by omega
    repeat' (first
      | with_reducible (first | refine Rd.p ?_ | refine w_alt ?_ ?_ | refine zE ?_ | refine zE0 ?_)
      | with_reducible (first | refine zI fun y hy => ?_ | refine zL ?_ | refine zS ?_ | refine zA fun _ => ?_ | refine zV ?_ | refine zC ?_ | refine zG ?_ | refine zU ?_ | refine zG0 ?_ | refine zU0 ?_ | refine zF ?_)
      | ((with_reducible refine acall_id ?_); refine ACall.val wake_s rfl rfl ?_)
      | with_reducible (first | refine zX ?_ | refine zD fun _ => ?_ | refine zD0 ?_ | refine zN ?_ | refine zF0 ?_ | refine zX0 ?_ | refine z1 ?_ | refine z2 ?_ | refine z3 ?_ | refine z4 ?_ | refine z5 ?_ | refine z6 ?_ | refine z7 ?_ | refine z8 ?_ | refine y1 ?_ | refine y2 ?_ | refine y3 ?_ | refine y4 ?_ | refine y5 ?_ | refine y6 ?_ | refine y7 ?_ | refine y8 ?_ | refine Rt.p (fun _ => ?_) fun _ => ?_)
      | ((with_reducible apply w_ixM); (focus exact rfl); (focus exact rfl); case' hk => intro y hy) | ((with_reducible (first | apply w_val | apply q_ends)); (focus exact rfl)))
    all_goals rfl
  obtain ⟨x, hx⟩ : ∃ x, SS[i]? = some x := ⟨_, List.getElem?_eq_getElem (by omega)⟩
  have smx := hS3 x (List.mem_of_getElem? hx)
  clear hSS hS3
  have hOS := ownLoans_c x (by omega)
  have hL := Lend_w x (by omega)
  have hL2 := rLend_w x (by omega)
  have hQS := eqLoans_c x (by omega)
  have hE1 := eq_c (lendV x).1 (lendV x).1 (lendV_len x (by omega))
  rw [decide_eq_true rfl] at hE1
  generalize lendE x = se at *
  generalize lendV x = ff at *
  obtain ⟨ff, fm⟩ := ff
  dsimp only at hL hL2 hE1
  repeat' (first
    | with_reducible (first | refine Rd.p ?_ | refine w_alt ?_ ?_ | refine zE ?_ | refine zE0 ?_)
    | (refine w_ixE (f := fun l : List Lon => [AV.slc 4 (oR l) .non]) hx rfl rfl ?_)
    | with_reducible (first | refine zI fun y hy => ?_ | refine zL ?_ | refine zS ?_ | refine zA fun _ => ?_ | refine zV ?_ | refine zC ?_ | refine zG ?_ | refine zU ?_ | refine zG0 ?_ | refine zU0 ?_ | refine zF ?_)
    | ((with_reducible refine acall_id ?_); refine ACall.val hOS rfl rfl ?_)
    | ((with_reducible refine acall_id ?_); refine ACall.val hL rfl rfl ?_)
    | ((with_reducible refine acall_id ?_); refine ACall.val hL2 rfl rfl ?_)
    | ((with_reducible refine acall_id ?_); refine ACall.val hE1 rfl rfl ?_)
    | ((with_reducible refine acall_id ?_); refine ACall.val hQS rfl rfl ?_)
    | with_reducible (first | refine zX ?_ | refine zD fun _ => ?_ | refine zD0 ?_ | refine zN ?_ | refine zF0 ?_ | refine zX0 ?_ | refine z1 ?_ | refine z2 ?_ | refine z3 ?_ | refine z4 ?_ | refine z5 ?_ | refine z6 ?_ | refine z7 ?_ | refine z8 ?_ | refine y1 ?_ | refine y2 ?_ | refine y3 ?_ | refine y4 ?_ | refine y5 ?_ | refine y6 ?_ | refine y7 ?_ | refine y8 ?_ | refine Rt.p (fun _ => ?_) fun _ => ?_)
    | ((with_reducible apply w_ixM); (focus exact rfl); (focus exact rfl); case' hk => intro y hy) | ((with_reducible (first | apply w_val | apply q_ends)); (focus exact rfl)))
  exact q_loop (i + 1) (by show i + 1 ≤ 2; omega) (by show 2 - (i + 1) < 2 - i; omega) (slots_cons (by show AV.int .i64 _ = AV.int .i64 _; refine int_eq ?_; simp) (slots_cons rfl slots_nil)) trivial (by repeat' (first | exact kept_nil | apply kept_cons | rfl)) (by repeat' (first | exact kept_nil | apply kept_cons | rfl))
end Go.Abs
