/- A part of the proofs of the laws of this seat: contracts of the functions that they reach, each proved of the program's form in Lean. No condition beyond those that each contract names. -/
import Derived.Test.YtajbhojompefoaaB0
import Derived.Test.YtajbhojompefoaaB15a
import Derived.Test.YtajbhojompefoaaB25
import Derived.Test.YtajbhojompefoaaB58
set_option linter.unusedVariables false
set_option linter.unusedSimpArgs false
set_option maxRecDepth 20000
set_option maxHeartbeats 4000000
/-! ### Lists that are turned round; Rounds -/
namespace Go.Abs
open Go.Proofs
/-- slices.Clone[[]int,int] -/
def ir13v : IFn :=
  ⟨8, [(2, none)], (.seq (.ops [⟨(some 2), none, (.mov (.k .nsl))⟩])
  (.seq (.seq (.ops [⟨(some 3), none, (.mov (.t 0))⟩,
    ⟨(some 4), none, (.eqn .slice false (.t 3) (.k .nsl))⟩])
  (.cnd (.t 4)
    (.seq (.ops [⟨(some 2), none, (.mov (.k .nsl))⟩])
    .ret)
    .skip))
  (.seq (.ops [⟨(some 5), none, (.bsl 1 [] [])⟩,
    ⟨(some 6), none, (.mov (.t 0))⟩,
    ⟨(some 7), none, (.apm 1 8 (.t 5) (.t 6) 2)⟩,
    ⟨(some 2), none, (.mov (.t 7))⟩])
  .ret)))⟩
def hint13v (P : Program) : Hint := { site := [(7, 2)], nils := [], frz := [], mve := [], wr := [7] }

/-- slices.Reverse[[]int,int] -/
def ir14 : IFn :=
  ⟨28, [], (.seq (.ops [⟨(some 4), none, (.mov (.t 0))⟩,
    ⟨(some 5), none, (.len false (.t 4))⟩,
    ⟨(some 6), none, (.bin .sub (.t 5) (.k (.int .i64 1)))⟩,
    ⟨(some 2), none, (.mov (.k (.int .i64 0)))⟩,
    ⟨(some 3), none, (.mov (.t 6))⟩])
  (.blk 0 (.loop (.seq (.seq (.ops [⟨(some 7), none, (.mov (.t 2))⟩,
        ⟨(some 8), none, (.mov (.t 3))⟩,
        ⟨(some 9), none, (.bin .lss (.t 7) (.t 8))⟩])
      (.cnd (.t 9)
        .skip
        (.exit 0)))
      (.seq (.blk 1 (.ops [⟨(some 14), none, (.mov (.t 0))⟩,
          ⟨(some 15), none, (.mov (.t 2))⟩,
          ⟨(some 16), none, (.mov (.t 0))⟩,
          ⟨(some 17), none, (.mov (.t 3))⟩,
          ⟨(some 18), none, (.mov (.t 0))⟩,
          ⟨(some 19), none, (.mov (.t 3))⟩,
          ⟨(some 20), none, (.ixA 1 (.t 18) (.t 19))⟩,
          ⟨(some 21), none, (.ld 1 false (.t 20))⟩,
          ⟨(some 22), none, (.mov (.t 0))⟩,
          ⟨(some 23), none, (.mov (.t 2))⟩,
          ⟨(some 24), none, (.ixA 1 (.t 22) (.t 23))⟩,
          ⟨(some 25), none, (.ld 1 false (.t 24))⟩,
          ⟨(some 26), none, (.ixA 1 (.t 14) (.t 15))⟩,
          ⟨none, none, (.st 1 (.t 26) (.t 21))⟩,
          ⟨(some 27), none, (.ixA 1 (.t 16) (.t 17))⟩,
          ⟨none, none, (.st 1 (.t 27) (.t 25))⟩]))
      (.ops [⟨(some 10), none, (.mov (.t 2))⟩,
        ⟨(some 11), none, (.bin .add (.t 10) (.k (.int .i64 1)))⟩,
        ⟨(some 12), none, (.mov (.t 3))⟩,
        ⟨(some 13), none, (.bin .sub (.t 12) (.k (.int .i64 1)))⟩,
        ⟨(some 2), none, (.mov (.t 11))⟩,
        ⟨(some 3), none, (.mov (.t 13))⟩]))))))⟩
def hint14 (P : Program) : Hint := {}

/-- aloeswood/design.within -/
def ir12 : IFn :=
  ⟨15, [(6, none)], (.seq (.ops [⟨(some 6), none, (.mov (.k (.bool false)))⟩])
  (.seq (.ops [⟨(some 7), none, (.mov (.t 1))⟩,
    ⟨(some 8), none, (.mov (.t 0))⟩,
    ⟨(some 9), none, (.bin .leq (.t 7) (.t 8))⟩,
    ⟨(some 10), none, (.mov (.t 9))⟩,
    ⟨(some 11), (some (10, true)), (.mov (.t 0))⟩,
    ⟨(some 12), (some (10, true)), (.mov (.t 2))⟩,
    ⟨(some 13), (some (10, true)), (.bin .leq (.t 11) (.t 12))⟩,
    ⟨(some 14), none, (.pick (.t 10) (.t 13) (.k (.bool false)))⟩,
    ⟨(some 6), none, (.mov (.t 14))⟩])
  .ret))⟩
def hint12 (P : Program) : Hint := {}

/-- aloeswood/design.Rounds -/
def ir8 : IFn :=
  ⟨86, [(2, none), (3, none)], (.seq (.ops [⟨(some 2), none, (.mov (.k .nsl))⟩,
    ⟨(some 3), none, (.mov (.k (.int .i64 0)))⟩])
  (.seq (.seq (.ops [⟨(some 14), none, (.mov (.t 0))⟩,
    ⟨(some 15), none, (.callF 12 [(.t 14), (.k (.int .i64 1)), (.k (.int .i64 12))])⟩,
    ⟨(some 16), none, (.not (.t 15))⟩])
  (.cnd (.t 16)
    (.seq (.ops [⟨(some 2), none, (.mov (.k .nsl))⟩,
      ⟨(some 3), none, (.mov (.k (.int .i64 2)))⟩])
    .ret)
    .skip))
  (.seq (.ops [⟨(some 17), none, (.bsl 1 [[(.int .i64 0)]] [(0, (.k (.int .i64 0)))])⟩,
    ⟨(some 4), none, (.mov (.t 17))⟩])
  (.seq (.seq (.ops [⟨(some 18), none, (.mov (.t 0))⟩,
    ⟨(some 19), none, (.bin .sub (.t 18) (.k (.int .i64 1)))⟩,
    ⟨(some 5), none, (.mov (.k (.int .i64 1)))⟩,
    ⟨(some 6), none, (.mov (.t 19))⟩])
  (.blk 0 (.loop (.seq (.seq (.ops [⟨(some 20), none, (.mov (.t 5))⟩,
        ⟨(some 21), none, (.mov (.t 6))⟩,
        ⟨(some 22), none, (.bin .leq (.t 20) (.t 21))⟩])
      (.cnd (.t 22)
        .skip
        (.exit 0)))
      (.seq (.blk 1 (.seq (.ops [⟨(some 27), none, (.mov (.t 4))⟩,
          ⟨(some 28), none, (.mov (.t 5))⟩,
          ⟨(some 29), none, (.bsl 1 [[(.int .i64 0)]] [(0, (.t 28))])⟩,
          ⟨(some 30), none, (.app 1 8 (.t 27) (.t 29) 4)⟩,
          ⟨(some 4), none, (.mov (.t 30))⟩])
        (.seq (.ops [⟨(some 31), none, (.mov (.t 5))⟩,
          ⟨(some 32), none, (.mov (.t 6))⟩,
          ⟨(some 33), none, (.bin .lss (.t 31) (.t 32))⟩])
        (.cnd (.t 33)
          (.ops [⟨(some 34), none, (.mov (.t 4))⟩,
            ⟨(some 35), none, (.mov (.t 6))⟩,
            ⟨(some 36), none, (.bsl 1 [[(.int .i64 0)]] [(0, (.t 35))])⟩,
            ⟨(some 37), none, (.app 1 8 (.t 34) (.t 36) 4)⟩,
            ⟨(some 4), none, (.mov (.t 37))⟩])
          .skip))))
      (.ops [⟨(some 23), none, (.mov (.t 5))⟩,
        ⟨(some 24), none, (.bin .add (.t 23) (.k (.int .i64 1)))⟩,
        ⟨(some 25), none, (.mov (.t 6))⟩,
        ⟨(some 26), none, (.bin .sub (.t 25) (.k (.int .i64 1)))⟩,
        ⟨(some 5), none, (.mov (.t 24))⟩,
        ⟨(some 6), none, (.mov (.t 26))⟩]))))))
  (.seq (.ops [⟨(some 7), none, (.nil 1 7)⟩])
  (.seq (.seq (.ops [⟨(some 38), none, (.mov (.t 0))⟩,
    ⟨(some 39), none, (.mov (.k (.int .i64 0)))⟩])
  (.blk 2 (.loop (.seq (.ops [⟨(some 40), none, (.bin .lss (.t 39) (.t 38))⟩])
      (.seq (.cnd (.t 40)
        .skip
        (.exit 2))
      (.seq (.blk 3 (.seq (.ops [⟨(some 41), none, (.mov (.t 39))⟩,
          ⟨(some 8), none, (.mov (.t 41))⟩])
        (.seq (.ops [⟨(some 9), none, (.nil 1 9)⟩])
        (.seq (.seq (.ops [⟨(some 42), none, (.mov (.t 4))⟩,
          ⟨(some 43), none, (.len false (.t 42))⟩,
          ⟨(some 44), none, (.mov (.k (.int .i64 0)))⟩])
        (.blk 4 (.loop (.seq (.ops [⟨(some 45), none, (.bin .lss (.t 44) (.t 43))⟩])
            (.seq (.cnd (.t 45)
              .skip
              (.exit 4))
            (.seq (.blk 5 (.seq (.ops [⟨(some 46), none, (.ixA 1 (.t 42) (.t 44))⟩,
                ⟨(some 47), none, (.ld 1 false (.t 46))⟩,
                ⟨(some 11), none, (.mov (.t 47))⟩])
              (.ops [⟨(some 48), none, (.mov (.t 9))⟩,
                ⟨(some 49), none, (.mov (.t 11))⟩,
                ⟨(some 50), none, (.mov (.t 8))⟩,
                ⟨(some 51), none, (.bin .add (.t 49) (.t 50))⟩,
                ⟨(some 52), none, (.mov (.t 0))⟩,
                ⟨(some 53), none, (.bin .rem (.t 51) (.t 52))⟩,
                ⟨(some 54), none, (.bsl 1 [[(.int .i64 0)]] [(0, (.t 53))])⟩,
                ⟨(some 55), none, (.app 1 8 (.t 48) (.t 54) 9)⟩,
                ⟨(some 9), none, (.mov (.t 55))⟩])))
            (.ops [⟨(some 56), none, (.bin .add (.t 44) (.k (.int .i64 1)))⟩,
              ⟨(some 44), none, (.mov (.t 56))⟩])))))))
        (.ops [⟨(some 57), none, (.mov (.t 7))⟩,
          ⟨(some 58), none, (.mov (.t 9))⟩,
          ⟨(some 59), none, (.bsl 1 [[.nsl]] [(0, (.t 58))])⟩,
          ⟨(some 60), none, (.app 1 24 (.t 57) (.t 59) 7)⟩,
          ⟨(some 7), none, (.mov (.t 60))⟩])))))
      (.ops [⟨(some 61), none, (.bin .add (.t 39) (.k (.int .i64 1)))⟩,
        ⟨(some 39), none, (.mov (.t 61))⟩])))))))
  (.seq (.seq (.ops [⟨(some 62), none, (.mov (.t 0))⟩,
    ⟨(some 63), none, (.bin .rem (.t 62) (.k (.int .i64 2)))⟩,
    ⟨(some 64), none, (.bin .eql (.t 63) (.k (.int .i64 1)))⟩,
    ⟨(some 65), none, (.mov (.t 64))⟩,
    ⟨(some 66), (some (65, true)), (.mov (.t 0))⟩,
    ⟨(some 67), (some (65, true)), (.bin .gtr (.t 66) (.k (.int .i64 1)))⟩,
    ⟨(some 68), none, (.pick (.t 65) (.t 67) (.k (.bool false)))⟩])
  (.cnd (.t 68)
    (.seq (.ops [⟨(some 69), none, (.mov (.t 0))⟩,
      ⟨(some 70), none, (.mov (.k (.int .i64 0)))⟩])
    (.blk 6 (.loop (.seq (.ops [⟨(some 71), none, (.bin .lss (.t 70) (.t 69))⟩])
        (.seq (.cnd (.t 71)
          .skip
          (.exit 6))
        (.seq (.blk 7 (.seq (.ops [⟨(some 72), none, (.mov (.t 70))⟩,
            ⟨(some 12), none, (.mov (.t 72))⟩])
          (.seq (.ops [⟨(some 73), none, (.mov (.t 7))⟩,
            ⟨(some 74), none, (.mov (.t 12))⟩,
            ⟨(some 75), none, (.ixA 1 (.t 73) (.t 74))⟩,
            ⟨(some 76), none, (.ld 1 false (.t 75))⟩,
            ⟨(some 77), none, (.callF 13 [(.t 76)])⟩,
            ⟨(some 13), none, (.mov (.t 77))⟩])
          (.seq (.ops [⟨(some 78), none, (.mov (.t 13))⟩,
            ⟨(some 79), none, (.callF 14 [(.t 78)])⟩])
          (.seq (.frz (.t 13))
          (.ops [⟨(some 80), none, (.mov (.t 7))⟩,
            ⟨(some 81), none, (.mov (.t 13))⟩,
            ⟨(some 82), none, (.bsl 1 [[.nsl]] [(0, (.t 81))])⟩,
            ⟨(some 83), none, (.app 1 24 (.t 80) (.t 82) 7)⟩,
            ⟨(some 7), none, (.mov (.t 83))⟩]))))))
        (.ops [⟨(some 84), none, (.bin .add (.t 70) (.k (.int .i64 1)))⟩,
          ⟨(some 70), none, (.mov (.t 84))⟩])))))))
    .skip))
  (.seq (.ops [⟨(some 85), none, (.mov (.t 7))⟩,
    ⟨(some 2), none, (.mov (.t 85))⟩,
    ⟨(some 3), none, (.mov (.k (.int .i64 0)))⟩])
  .ret))))))))⟩
def hint8 (P : Program) : Hint := { site := [(17, 4), (30, 4), (37, 4), (55, 9), (60, 7), (83, 7)], nils := [(7, 1), (9, 1)], frz := [(80, 13)], mve := [], wr := [] }

section
variable {P : Program}
theorem w_ldRI {K : (Nat → AV) → Sig → Prop} {e : Nat → AV} {σ : Sig} {x : IOpd} {d : Nat} {r : List IStep} {i g n : Nat} {f : Nat → Int} {y : Int} (hx : x.ev e = .ref i g (y.toNat * 1)) (hσ : σ i = (g, .row (rowI n f))) (hy : y.toNat < n)
    (hk : stepsW P r K (upd e d (.int .i64 (f y.toNat))) σ) : stepsW P (⟨some d, none, .ld 1 false x⟩ :: r) K e σ :=
  w_ldAt hx hσ (by rw [Nat.mul_one]; exact rowI_get _ hy) rfl hk
theorem w_stRI {K : (Nat → AV) → Sig → Prop} {e : Nat → AV} {σ : Sig} {x v : IOpd} {r : List IStep} {i g n : Nat} {f : Nat → Int} {y m : Int} (hx : x.ev e = .ref i g (y.toNat * 1)) (hv : v.ev e = .int .i64 m) (hσ : σ i = (g, .row (rowI n f))) (hy : y.toNat < n)
    (hk : stepsW P r K e (upd σ i (g, .row (rowI n fun z => if z = y.toNat then m else f z)))) : stepsW P (⟨none, none, .st 1 x v⟩ :: r) K e σ := by
  refine w_det0 (p := g = g ∧ 1 = 1 ∧ y.toNat * 1 + 1 ≤ (rowI n f).length) (v := .junk) (σ' := upd σ i (g, .row (setL (rowI n f) (y.toNat * 1) [.int .i64 m]))) (fun _ => ?_) ⟨rfl, rfl, by rw [rowI_len]; omega⟩ ?_
  · show stO 1 _ (v.ev e) (x.ev e) = _
    rw [hx, hv]
    simp only [stO, cellsO, hσ]
  · rw [setL_one, Nat.mul_one, rowI_set]; exact hk
end
theorem iR_flat : ∀ l : List Int, (iR l).flatten = l.map (AV.int .i64)
  | [] => rfl
  | a :: l => by
    show AV.int .i64 a :: (iR l).flatten = _
    rw [iR_flat l]; rfl
theorem rowI_eq (l : List Int) : l.map (AV.int .i64) = rowI l.length fun k => l.getD k 0 := by
  apply List.ext_getElem?
  intro j
  by_cases hj : j < l.length
  · rw [rowI_get _ hj]; simp [List.getD_eq_getElem?_getD, List.getElem?_eq_getElem hj]
  · rw [List.getElem?_eq_none (by simp; omega), List.getElem?_eq_none (by rw [rowI_len]; omega)]
theorem rowI_list (n : Nat) (f : Nat → Int) : rowI n f = ((List.range n).map f).map (AV.int .i64) := by simp [rowI]
theorem rowI_congr {n : Nat} {f f' : Nat → Int} (h : ∀ k < n, f k = f' k) : rowI n f = rowI n f' := List.map_congr_left fun k hk => by rw [h k (by simpa using hk)]
theorem cloneW_c (a : Int) (l : List Int) (h : l.length < 2 ^ 40) : RawC Try.prog 13 [.slc 1 (iR (a :: l)) .non] (sg []) (SR (fun g v => v = .msl 2 g (a :: l).length 1) (fun g => [(2, (g, .row (rowI (a :: l).length fun k => (a :: l).getD k 0)))])) := by
  have hl : (iR (a :: l)).length = l.length + 1 := by simp
  refine RawC.walk (H := hint13v Try.prog) ir13v Try.func13 rfl rfl rfl ?_
  unfold ir13v
  repeat' (first
    | with_reducible (first | refine Rd.p ?_ | refine zO ?_ | refine zE0 ?_)
    | with_reducible (first | refine zI fun y hy => ?_ | refine zL ?_ | refine zS ?_ | refine zA fun _ => ?_ | refine zV ?_ | refine zC ?_ | refine zG ?_ | refine zU ?_ | refine zG0 ?_ | refine zU0 ?_ | refine zF ?_)
    | with_reducible (first | refine zX ?_ | refine zD fun _ => ?_ | refine zD0 ?_ | refine zN ?_ | refine zF0 ?_ | refine zX0 ?_ | refine z1 ?_ | refine z2 ?_ | refine z3 ?_ | refine z4 ?_ | refine z5 ?_ | refine z6 ?_ | refine z7 ?_ | refine z8 ?_ | refine y1 ?_ | refine y2 ?_ | refine y3 ?_ | refine y4 ?_ | refine y5 ?_ | refine y6 ?_ | refine y7 ?_ | refine y8 ?_ | refine Rt.p (fun _ => ?_) fun _ => ?_)
    | ((with_reducible apply w_ixM); (focus exact rfl); (focus exact rfl); case' hk => intro y hy) | ((with_reducible (first | apply w_val | apply q_ends)); (focus exact rfl)))
  exact ⟨_, by show AV.msl 2 _ (0 + (iR (a :: l)).length) 1 = _; rw [Nat.zero_add, List.length_map], by show (_, Res.row ([] ++ (iR (a :: l)).flatten)) = _; rw [List.nil_append, iR_flat, rowI_eq], trivial⟩
def revF (n : Nat) (x : Nat → Int) (i k : Nat) : Int := if k < i ∨ n ≤ k + i then x (n - 1 - k) else x k
theorem reverse_c (g n : Nat) (x : Nat → Int) (hn : n < 1000) : RawC Try.prog 14 [.msl 1000 g n 1] (sg [(1000, (g, .row (rowI n x)))]) (SR (fun (_ : Unit) v => v = .tup []) (fun _ => [(1000, (g, .row (rowI n fun k => x (n - 1 - k))))])) := by
  refine RawC.walk (H := hint14 Try.prog) ir14 Try.func14 rfl rfl rfl ?_
  unfold ir14
  repeat' (first
    | with_reducible (first | refine Rd.p ?_ | refine zE ?_ | refine zE0 ?_)
    | with_reducible (first | refine zI fun y hy => ?_ | refine zL ?_ | refine zS ?_ | refine zA fun _ => ?_ | refine zV ?_ | refine zC ?_ | refine zG ?_ | refine zU ?_ | refine zG0 ?_ | refine zU0 ?_ | refine zF ?_)
    | with_reducible (first | refine zX ?_ | refine zD fun _ => ?_ | refine zD0 ?_ | refine zN ?_ | refine zF0 ?_ | refine zX0 ?_ | refine z1 ?_ | refine z2 ?_ | refine z3 ?_ | refine z4 ?_ | refine z5 ?_ | refine z6 ?_ | refine z7 ?_ | refine z8 ?_ | refine y1 ?_ | refine y2 ?_ | refine y3 ?_ | refine y4 ?_ | refine y5 ?_ | refine y6 ?_ | refine y7 ?_ | refine y8 ?_ | refine Rt.p (fun _ => ?_) fun _ => ?_)
    | ((with_reducible apply w_ixM); (focus exact rfl); (focus exact rfl); case' hk => intro y hy) | ((with_reducible (first | apply w_val | apply q_ends)); (focus exact rfl)))
  refine w_loopK [0] [] (fun i : Nat => 2 * i ≤ n) (fun i => n - i) (fun i => [(2, .int .i64 i), (3, .int .i64 ((n : Int) - 1 - i))]) (fun i => [(1000, (g, .row (rowI n (revF n x i))))]) 0 (by omega) ⟨rfl, int_eq (by simp), trivial⟩ ⟨?_, trivial⟩ ?_
  · refine congrArg (fun c => ((g, Res.row c) : Nat × Res)) (rowI_congr fun k hk => ?_)
    rw [revF, if_neg (by omega)]
  rintro i hi e σ
  dsimp only at hi ⊢
  by_cases hlt : (i : Int) < (n : Int) - 1 - i
  · have e1 : ((n : Int) - 1 - i).toNat = n - 1 - i := by omega
    repeat' (first
      | with_reducible (first | refine Rd.p ?_ | refine zO ?_ | refine zE0 ?_)
      | (first | refine w_ldRI rfl rfl (by omega) ?_ | refine w_stRI rfl rfl rfl (by omega) ?_)
      | with_reducible (first | refine zI fun y hy => ?_ | refine zL ?_ | refine zS ?_ | refine zA fun _ => ?_ | refine zV ?_ | refine zC ?_ | refine zG ?_ | refine zU ?_ | refine zG0 ?_ | refine zU0 ?_ | refine zF ?_)
      | with_reducible (first | refine zX ?_ | refine zD fun _ => ?_ | refine zD0 ?_ | refine zN ?_ | refine zF0 ?_ | refine zX0 ?_ | refine z1 ?_ | refine z2 ?_ | refine z3 ?_ | refine z4 ?_ | refine z5 ?_ | refine z6 ?_ | refine z7 ?_ | refine z8 ?_ | refine y1 ?_ | refine y2 ?_ | refine y3 ?_ | refine y4 ?_ | refine y5 ?_ | refine y6 ?_ | refine y7 ?_ | refine y8 ?_ | refine Rt.p (fun _ => ?_) fun _ => ?_)
      | ((with_reducible apply w_ixM); (focus exact rfl); (focus exact rfl); case' hk => intro y hy) | ((with_reducible (first | apply w_val | apply q_ends)); (focus exact rfl)))
    refine q_loop (i + 1) ?_ ?_ (by exact ⟨int_eq (by omega), int_eq (by omega), trivial⟩) ⟨?_, trivial⟩ (by repeat' (first | exact kept_nil | apply kept_cons | rfl)) (by repeat' (first | exact kept_nil | apply kept_cons | rfl))
    · omega
    · omega
    · refine congrArg (fun c => ((g, Res.row c) : Nat × Res)) (rowI_congr fun k hk => ?_)
      have e2 : ((i : Nat) : Int).toNat = i := by omega
      have hi1 : revF n x i i = x i := by rw [revF, if_neg (by omega)]
      have hj1 : revF n x i (n - 1 - i) = x (n - 1 - i) := by rw [revF, if_neg (by omega)]
      have e2 : ((i : Nat) : Int).toNat = i := by omega
      simp only [e1, e2, hi1, hj1]
      unfold revF
      split
      · rename_i h1
        rw [if_pos (by omega)]; congr 1; omega
      · split
        · rename_i h1 h2
          rw [if_pos (by omega), h2]
        · rename_i h1 h2
          by_cases h3 : k < i ∨ n ≤ k + i
          · rw [if_pos h3, if_pos (by omega)]
          · rw [if_neg h3, if_neg (by omega)]
  · repeat' (first
      | with_reducible (first | refine Rd.p ?_ | refine zO ?_ | refine zE0 ?_)
      | with_reducible (first | refine zI fun y hy => ?_ | refine zL ?_ | refine zS ?_ | refine zA fun _ => ?_ | refine zV ?_ | refine zC ?_ | refine zG ?_ | refine zU ?_ | refine zG0 ?_ | refine zU0 ?_ | refine zF ?_)
      | with_reducible (first | refine zX ?_ | refine zD fun _ => ?_ | refine zD0 ?_ | refine zN ?_ | refine zF0 ?_ | refine zX0 ?_ | refine z1 ?_ | refine z2 ?_ | refine z3 ?_ | refine z4 ?_ | refine z5 ?_ | refine z6 ?_ | refine z7 ?_ | refine z8 ?_ | refine y1 ?_ | refine y2 ?_ | refine y3 ?_ | refine y4 ?_ | refine y5 ?_ | refine y6 ?_ | refine y7 ?_ | refine y8 ?_ | refine Rt.p (fun _ => ?_) fun _ => ?_)
      | ((with_reducible apply w_ixM); (focus exact rfl); (focus exact rfl); case' hk => intro y hy) | ((with_reducible (first | apply w_val | apply q_ends)); (focus exact rfl)))
    refine ⟨(), rfl, congrArg (fun c => ((g, Res.row c) : Nat × Res)) (rowI_congr fun k hk => ?_), trivial⟩
    unfold revF
    split
    · rfl
    · rename_i h; congr 1; omega
theorem rowI_ren (ρ : List (Nat × Nat)) (n : Nat) (f : Nat → Int) : renL ρ (rowI n f) = rowI n f := by
  unfold rowI
  induction List.range n with
  | nil => rfl
  | cons y l ih => rw [List.map_cons]; show AV.int .i64 (f y) :: renL ρ _ = _; rw [ih]
theorem ACall.cloneW {a : Int} {l : List Int} {σ : Sig} {Q : AV → Sig → Prop} (h : l.length < 2 ^ 40) (hQ : ∀ g, Q (.msl 77 g (a :: l).length 1) (upd σ 77 (g, .row (rowI (a :: l).length fun k => (a :: l).getD k 0)))) : ACall Try.prog 13 [.slc 1 (iR (a :: l)) .non] σ 77 Q := by
  refine ACall.liftS (cloneW_c a l h) [] (some 2) rfl rfl rfl trivial (fun _ => rfl) ?_
  rintro g _ rfl
  show Q (.msl 77 g (a :: l).length 1) (upd σ 77 (g, .row (renL _ (rowI (a :: l).length fun k => (a :: l).getD k 0))))
  rw [rowI_ren]; exact hQ g
theorem ACall.reverseW {g n : Nat} {x : Nat → Int} {σ : Sig} {Q : AV → Sig → Prop} (hσ : σ 77 = (g, .row (rowI n x))) (hn : n < 1000) (hQ : Q (.tup []) (upd σ 77 (g, .row (rowI n fun k => x (n - 1 - k))))) : ACall Try.prog 14 [.msl 77 g n 1] σ 79 Q := by
  refine ACall.liftS (reverse_c g n x hn) [(1000, 77)] none rfl rfl ?_ ⟨⟨_, by rw [hσ]⟩, trivial⟩ (fun _ => rfl) ?_
  · show [(1000, (g, Res.row (rowI n x)))] = [(1000, ((σ 77).1, renR _ (σ 77).2))]
    rw [hσ]
    show [(1000, (g, Res.row (rowI n x)))] = [(1000, (g, Res.row (renL _ (rowI n x))))]
    rw [rowI_ren]
  · rintro ⟨⟩ _ rfl
    show Q (.tup []) (upd σ 77 (g, .row (renL _ (rowI n fun k => x (n - 1 - k)))))
    rw [rowI_ren]; exact hQ
theorem dwithin_c (a b c : Int) : Fn0 Try.prog 12 [.int .i64 a, .int .i64 b, .int .i64 c] (fun v => v = .bool (inB a b c)) := by
  refine RawC.walk (H := hint12 Try.prog) ir12 Try.func12 rfl rfl rfl ?_
  unfold ir12
  repeat' (first
    | with_reducible (first | refine Rd.p ?_ | refine zE ?_ | refine zE0 ?_)
    | with_reducible (first | refine zI fun y hy => ?_ | refine zL ?_ | refine zS ?_ | refine zA fun _ => ?_ | refine zV ?_ | refine zC ?_ | refine zG ?_ | refine zU ?_ | refine zG0 ?_ | refine zU0 ?_ | refine zF ?_)
    | with_reducible (first | refine zX ?_ | refine zD fun _ => ?_ | refine zD0 ?_ | refine zN ?_ | refine zF0 ?_ | refine zX0 ?_ | refine z1 ?_ | refine z2 ?_ | refine z3 ?_ | refine z4 ?_ | refine z5 ?_ | refine z6 ?_ | refine z7 ?_ | refine z8 ?_ | refine y1 ?_ | refine y2 ?_ | refine y3 ?_ | refine y4 ?_ | refine y5 ?_ | refine y6 ?_ | refine y7 ?_ | refine y8 ?_ | refine Rt.p (fun _ => ?_) fun _ => ?_)
    | ((with_reducible apply w_ixM); (focus exact rfl); (focus exact rfl); case' hk => intro y hy) | ((with_reducible (first | apply w_val | apply q_ends)); (focus exact rfl)))
  all_goals (simp [tupV, untag, untagL, inB]; omega)
/-- The first order; an order, turned; all orders. -/
def zigF : Nat → Int → Int → List Int
  | 0, _, _ => []
  | f + 1, lo, hi => if lo ≤ hi then lo :: ((if lo < hi then [hi] else []) ++ zigF f (lo + 1) (hi - 1)) else []
def firstL (n : Nat) : List Int := 0 :: zigF n 1 ((n : Int) - 1)
def turnL (n : Nat) (i : Int) (l : List Int) : List Int := l.map fun g => (g + i).tmod n
def turnsL (n : Nat) (k : Nat) : List (List Int) := (List.range k).map fun (i : Nat) => turnL n (i : Int) (firstL n)
def roundsL (n : Nat) : List (List Int) := turnsL n n ++ if (n : Int).tmod 2 = 1 ∧ 1 < n then (turnsL n n).map List.reverse else []
theorem zigF_len : ∀ (f : Nat) (lo hi : Int), (zigF f lo hi).length ≤ 2 * f
  | 0, _, _ => Nat.le_refl _
  | f + 1, lo, hi => by
    have := zigF_len f (lo + 1) (hi - 1)
    rw [zigF]; split
    · split <;> simp <;> omega
    · simp
theorem zigF_stop (f : Nat) {lo hi : Int} (h : ¬ lo ≤ hi) : zigF f lo hi = [] := by
  cases f with
  | zero => rfl
  | succ f => rw [zigF, if_neg h]
theorem firstL_bd (n : Nat) (h : n ≤ 12) : ∀ y ∈ firstL n, 0 ≤ y ∧ y ≤ 12 := by
  have key : ∀ (f : Nat) (lo hi : Int), 0 ≤ lo → hi ≤ 12 → ∀ y ∈ zigF f lo hi, 0 ≤ y ∧ y ≤ 12 := by
    intro f
    induction f with
    | zero => intro lo hi _ _ y hy; cases hy
    | succ f ih =>
      intro lo hi h1 h2 y hy
      rw [zigF] at hy
      split at hy
      · rcases List.mem_cons.1 hy with rfl | hy
        · omega
        · rcases List.mem_append.1 hy with hy | hy
          · split at hy
            · rw [List.mem_singleton] at hy; omega
            · cases hy
          · exact ih _ _ (by omega) (by omega) y hy
      · cases hy
  intro y hy
  rcases List.mem_cons.1 hy with rfl | hy
  · omega
  · exact key _ _ _ (by omega) (by omega) y hy
theorem rev_row (l : List Int) : (rowI l.length fun k => l.getD (l.length - 1 - k) 0) = l.reverse.map (AV.int .i64) := by
  apply List.ext_getElem?
  intro j
  by_cases hj : j < l.length
  · rw [rowI_get _ hj]
    rw [List.getElem?_map, List.getElem?_reverse hj, List.getElem?_eq_getElem (show l.length - 1 - j < l.length by omega)]
    simp [List.getD_eq_getElem?_getD, List.getElem?_eq_getElem (show l.length - 1 - j < l.length by omega)]
  · rw [List.getElem?_eq_none (by rw [rowI_len]; omega), List.getElem?_eq_none (by simp; omega)]
/-- A slice that may have grown. -/
def tagO (i : Nat) : Option Nat → Tag
  | none => .full
  | some g => .own i g
def siteO (i : Nat) : Option Nat → List (Nat × (Nat × Res))
  | none => []
  | some g => [(i, (g, .row []))]
theorem Rounds_c (n : Nat) (h1 : 1 ≤ n) (h2 : n ≤ 12) : Fn0 Try.prog 8 [.int .i64 n] (fun v => v = .tup [.slc 1 (llR (roundsL n)) .non, .int .i64 0]) := by
  have hw := dwithin_c n 1 12
  rw [inB_t.2 (by omega)] at hw
  refine RawC.walk (H := hint8 Try.prog) ir8 Try.func8 rfl rfl rfl ?_
  unfold ir8
  repeat' (first
    | with_reducible (first | refine Rd.p ?_ | refine zE ?_ | refine zE0 ?_)
    | with_reducible (first | refine zI fun y hy => ?_ | refine zL ?_ | refine zS ?_ | refine zA fun _ => ?_ | refine zV ?_ | refine zC ?_ | refine zG ?_ | refine zU ?_ | refine zG0 ?_ | refine zU0 ?_ | refine zF ?_)
    | ((with_reducible refine acall_id ?_); refine ACall.val hw rfl rfl ?_)
    | with_reducible (first | refine zX ?_ | refine zD fun _ => ?_ | refine zD0 ?_ | refine zN ?_ | refine zF0 ?_ | refine zX0 ?_ | refine z1 ?_ | refine z2 ?_ | refine z3 ?_ | refine z4 ?_ | refine z5 ?_ | refine z6 ?_ | refine z7 ?_ | refine z8 ?_ | refine y1 ?_ | refine y2 ?_ | refine y3 ?_ | refine y4 ?_ | refine y5 ?_ | refine y6 ?_ | refine y7 ?_ | refine y8 ?_ | refine Rt.p (fun _ => ?_) fun _ => ?_)
    | ((with_reducible apply w_ixM); (focus exact rfl); (focus exact rfl); case' hk => intro y hy) | ((with_reducible (first | apply w_val | apply q_ends)); (focus exact rfl)))
  have hfl : (firstL n).length ≤ 2 * n + 1 := by have := zigF_len n 1 ((n : Int) - 1); simp [firstL]; omega
  refine w_loopK [0] [] (fun x : List Int × Int × Int × Nat × Option Nat => firstL n = x.1 ++ zigF x.2.2.2.1 x.2.1 x.2.2.1 ∧ x.2.2.1 - x.2.1 < 2 * x.2.2.2.1 ∧ 1 ≤ x.2.1 ∧ x.2.1 ≤ 100 ∧ -100 ≤ x.2.2.1 ∧ x.2.2.1 ≤ (n : Int) - 1) (fun x => x.2.2.2.1)
    (fun x => [(4, .slc 1 (iR x.1) (tagO 4 x.2.2.2.2)), (5, .int .i64 x.2.1), (6, .int .i64 x.2.2.1)]) (fun x => siteO 4 x.2.2.2.2) ([0], 1, (n : Int) - 1, n, none) ⟨rfl, by dsimp only; omega, by dsimp only; omega, by dsimp only; omega, by dsimp only; omega, Int.le_refl _⟩ ⟨rfl, rfl, rfl, trivial⟩ trivial ?_
  rintro ⟨acc, lo, hi, fu, g⟩ ⟨hz, hm, hl1, hl2, hh1, hh2⟩ e σ
  dsimp only at hz hm hl1 hl2 hh1 hh2 ⊢
  have hzl := congrArg List.length hz
  rw [List.length_append] at hzl
  by_cases hle : lo ≤ hi
  case pos =>
    cases fu with
    | zero => exfalso; omega
    | succ fu =>
      rw [zigF, if_pos hle] at hz
      have hiacc : (iR acc).length = acc.length := by simp
      cases g
      all_goals
        by_cases hlt : lo < hi
        · rw [if_pos hlt] at hz
          repeat' (first
            | with_reducible (first | refine Rd.p ?_ | refine zE ?_ | refine zE0 ?_)
            | with_reducible (first | refine zI fun y hy => ?_ | refine zL ?_ | refine zS ?_ | refine zA fun _ => ?_ | refine zV ?_ | refine zC ?_ | refine zG ?_ | refine zU ?_ | refine zG0 ?_ | refine zU0 ?_ | refine zF ?_)
            | with_reducible (first | refine zX ?_ | refine zD fun _ => ?_ | refine zD0 ?_ | refine zN ?_ | refine zF0 ?_ | refine zX0 ?_ | refine z1 ?_ | refine z2 ?_ | refine z3 ?_ | refine z4 ?_ | refine z5 ?_ | refine z6 ?_ | refine z7 ?_ | refine z8 ?_ | refine y1 ?_ | refine y2 ?_ | refine y3 ?_ | refine y4 ?_ | refine y5 ?_ | refine y6 ?_ | refine y7 ?_ | refine y8 ?_ | refine Rt.p (fun _ => ?_) fun _ => ?_)
            | ((with_reducible apply w_ixM); (focus exact rfl); (focus exact rfl); case' hk => intro y hy) | ((with_reducible (first | apply w_val | apply q_ends)); (focus exact rfl)))
          refine q_loop (acc ++ [lo] ++ [hi], lo + 1, hi - 1, fu, some _) ?_ ?_ (by exact ⟨rfl, rfl, rfl, trivial⟩) (by repeat' (first | exact slots_nil | apply slots_cons | rfl | (rw [map_snoc]; rfl) | (rw [len_snoc]; rfl) | (rw [hS]; rfl) | (rw [hS, map_snoc]; rfl) | (refine int_eq ?_; (try dsimp only); omega) | (refine congrArg AV.bool ?_; simp_all; done))) (by repeat' (first | exact kept_nil | apply kept_cons | rfl)) (by repeat' (first | exact kept_nil | apply kept_cons | rfl))
          · exact ⟨by rw [hz]; simp, by dsimp only; omega, by dsimp only; omega, by dsimp only; omega, by dsimp only; omega, by dsimp only; omega⟩
          · simp
        · rw [if_neg hlt] at hz
          repeat' (first
            | with_reducible (first | refine Rd.p ?_ | refine zE ?_ | refine zE0 ?_)
            | with_reducible (first | refine zI fun y hy => ?_ | refine zL ?_ | refine zS ?_ | refine zA fun _ => ?_ | refine zV ?_ | refine zC ?_ | refine zG ?_ | refine zU ?_ | refine zG0 ?_ | refine zU0 ?_ | refine zF ?_)
            | with_reducible (first | refine zX ?_ | refine zD fun _ => ?_ | refine zD0 ?_ | refine zN ?_ | refine zF0 ?_ | refine zX0 ?_ | refine z1 ?_ | refine z2 ?_ | refine z3 ?_ | refine z4 ?_ | refine z5 ?_ | refine z6 ?_ | refine z7 ?_ | refine z8 ?_ | refine y1 ?_ | refine y2 ?_ | refine y3 ?_ | refine y4 ?_ | refine y5 ?_ | refine y6 ?_ | refine y7 ?_ | refine y8 ?_ | refine Rt.p (fun _ => ?_) fun _ => ?_)
            | ((with_reducible apply w_ixM); (focus exact rfl); (focus exact rfl); case' hk => intro y hy) | ((with_reducible (first | apply w_val | apply q_ends)); (focus exact rfl)))
          refine q_loop (acc ++ [lo], lo + 1, hi - 1, fu, some _) ?_ ?_ (by exact ⟨rfl, rfl, rfl, trivial⟩) (by repeat' (first | exact slots_nil | apply slots_cons | rfl | (rw [map_snoc]; rfl) | (rw [len_snoc]; rfl) | (rw [hS]; rfl) | (rw [hS, map_snoc]; rfl) | (refine int_eq ?_; (try dsimp only); omega) | (refine congrArg AV.bool ?_; simp_all; done))) (by repeat' (first | exact kept_nil | apply kept_cons | rfl)) (by repeat' (first | exact kept_nil | apply kept_cons | rfl))
          · exact ⟨by rw [hz]; simp, by dsimp only; omega, by dsimp only; omega, by dsimp only; omega, by dsimp only; omega, by dsimp only; omega⟩
          · simp
  rw [zigF_stop _ hle, List.append_nil] at hz
  subst hz
  repeat' (first
    | with_reducible (first | refine Rd.p ?_ | refine zE ?_ | refine zE0 ?_)
    | with_reducible (first | refine zI fun y hy => ?_ | refine zL ?_ | refine zS ?_ | refine zA fun _ => ?_ | refine zV ?_ | refine zC ?_ | refine zG ?_ | refine zU ?_ | refine zG0 ?_ | refine zU0 ?_ | refine zF ?_)
    | with_reducible (first | refine zX ?_ | refine zD fun _ => ?_ | refine zD0 ?_ | refine zN ?_ | refine zF0 ?_ | refine zX0 ?_ | refine z1 ?_ | refine z2 ?_ | refine z3 ?_ | refine z4 ?_ | refine z5 ?_ | refine z6 ?_ | refine z7 ?_ | refine z8 ?_ | refine y1 ?_ | refine y2 ?_ | refine y3 ?_ | refine y4 ?_ | refine y5 ?_ | refine y6 ?_ | refine y7 ?_ | refine y8 ?_ | refine Rt.p (fun _ => ?_) fun _ => ?_)
    | ((with_reducible apply w_ixM); (focus exact rfl); (focus exact rfl); case' hk => intro y hy) | ((with_reducible (first | apply w_val | apply q_ends)); (focus exact rfl)))
  rename_i g7
  have hfb := firstL_bd n h2
  have hfn : (firstL n).length ≤ 25 := by omega
  clear hm hl1 hl2 hh1 hh2 hle hzl
  refine w_loopK [0, 4, 38] [] (fun x : Nat × Nat => x.1 ≤ n) (fun x => n - x.1) (fun x => [(39, .int .i64 x.1), (7, .slc 1 (llR (turnsL n x.1)) (.own 7 x.2))]) (fun x => [(7, (x.2, .row []))]) (0, g7) (Nat.zero_le _) ⟨rfl, rfl, trivial⟩ ⟨rfl, trivial⟩ ?_
  rintro ⟨i, g7⟩ hi e1 σ1
  dsimp only at hi ⊢
  have htl : (llR (turnsL n i)).length = i := by simp [turnsL]
  by_cases hlt : i < n
  case pos =>
    repeat' (first
      | with_reducible (first | refine Rd.p ?_ | refine zE ?_ | refine zE0 ?_)
      | with_reducible (first | refine zI fun y hy => ?_ | refine zL ?_ | refine zS ?_ | refine zA fun _ => ?_ | refine zV ?_ | refine zC ?_ | refine zG ?_ | refine zU ?_ | refine zG0 ?_ | refine zU0 ?_ | refine zF ?_)
      | with_reducible (first | refine zX ?_ | refine zD fun _ => ?_ | refine zD0 ?_ | refine zN ?_ | refine zF0 ?_ | refine zX0 ?_ | refine z1 ?_ | refine z2 ?_ | refine z3 ?_ | refine z4 ?_ | refine z5 ?_ | refine z6 ?_ | refine z7 ?_ | refine z8 ?_ | refine y1 ?_ | refine y2 ?_ | refine y3 ?_ | refine y4 ?_ | refine y5 ?_ | refine y6 ?_ | refine y7 ?_ | refine y8 ?_ | refine Rt.p (fun _ => ?_) fun _ => ?_)
      | ((with_reducible apply w_ixM); (focus exact rfl); (focus exact rfl); case' hk => intro y hy) | ((with_reducible (first | apply w_val | apply q_ends)); (focus exact rfl)))
    rename_i g9
    refine w_loopK [0, 4, 7, 8, 38, 39, 42, 43] [7] (fun x : List Int × List Int × Nat => firstL n = x.1 ++ x.2.1) (fun x => x.2.1.length) (fun x => [(44, .int .i64 x.1.length), (9, .slc 1 (iR (turnL n i x.1)) (.own 9 x.2.2))]) (fun x => [(9, (x.2.2, .row []))]) ([], firstL n, g9) rfl ⟨rfl, rfl, trivial⟩ ⟨rfl, trivial⟩ ?_
    rintro ⟨pre, post, g9⟩ hp e2 σ2
    dsimp only at hp ⊢
    have hlen := congrArg List.length hp
    have htl2 : (iR (turnL n i pre)).length = pre.length := by simp [turnL]
    cases post with
    | nil =>
      simp only [List.append_nil, List.length_append, List.length_nil] at hlen hp
      have hS : turnsL n (i + 1) = turnsL n i ++ [turnL n i pre] := by rw [turnsL, List.range_succ, List.map_append, ← hp]; rfl
      repeat' (first
        | with_reducible (first | refine Rd.p ?_ | refine zE ?_ | refine zE0 ?_)
        | with_reducible (first | refine zI fun y hy => ?_ | refine zL ?_ | refine zS ?_ | refine zA fun _ => ?_ | refine zV ?_ | refine zC ?_ | refine zG ?_ | refine zU ?_ | refine zG0 ?_ | refine zU0 ?_ | refine zF ?_)
        | with_reducible (first | refine zX ?_ | refine zD fun _ => ?_ | refine zD0 ?_ | refine zN ?_ | refine zF0 ?_ | refine zX0 ?_ | refine z1 ?_ | refine z2 ?_ | refine z3 ?_ | refine z4 ?_ | refine z5 ?_ | refine z6 ?_ | refine z7 ?_ | refine z8 ?_ | refine y1 ?_ | refine y2 ?_ | refine y3 ?_ | refine y4 ?_ | refine y5 ?_ | refine y6 ?_ | refine y7 ?_ | refine y8 ?_ | refine Rt.p (fun _ => ?_) fun _ => ?_)
        | ((with_reducible apply w_ixM); (focus exact rfl); (focus exact rfl); case' hk => intro y hy) | ((with_reducible (first | apply w_val | apply q_ends)); (focus exact rfl)))
      refine q_loop (i + 1, _) ?_ ?_ (by repeat' (first | exact slots_nil | apply slots_cons | rfl | (rw [map_snoc]; rfl) | (rw [len_snoc]; rfl) | (rw [hS]; rfl) | (rw [hS, map_snoc]; rfl) | (refine int_eq ?_; (try dsimp only); omega) | (refine congrArg AV.bool ?_; simp_all; done))) (by repeat' (first | exact slots_nil | apply slots_cons | rfl | (rw [map_snoc]; rfl) | (rw [len_snoc]; rfl) | (rw [hS]; rfl) | (rw [hS, map_snoc]; rfl) | (refine int_eq ?_; (try dsimp only); omega) | (refine congrArg AV.bool ?_; simp_all; done))) (by repeat' (first | exact kept_nil | apply kept_cons | rfl)) (by repeat' (first | exact kept_nil | apply kept_cons | rfl))
      · dsimp only; omega
      · dsimp only; omega
    | cons y post =>
      simp only [List.length_append, List.length_cons] at hlen
      have hy := hfb y (by rw [hp]; simp)
      have hS : turnL n i (pre ++ [y]) = turnL n i pre ++ [(y + i).tmod n] := by simp [turnL]
      repeat' (first
        | with_reducible (first | refine Rd.p ?_ | refine zE ?_ | refine zE0 ?_)
        | (refine w_ixP hp rfl rfl ?_)
        | with_reducible (first | refine zI fun y hy => ?_ | refine zL ?_ | refine zS ?_ | refine zA fun _ => ?_ | refine zV ?_ | refine zC ?_ | refine zG ?_ | refine zU ?_ | refine zG0 ?_ | refine zU0 ?_ | refine zF ?_)
        | with_reducible (first | refine zX ?_ | refine zD fun _ => ?_ | refine zD0 ?_ | refine zN ?_ | refine zF0 ?_ | refine zX0 ?_ | refine z1 ?_ | refine z2 ?_ | refine z3 ?_ | refine z4 ?_ | refine z5 ?_ | refine z6 ?_ | refine z7 ?_ | refine z8 ?_ | refine y1 ?_ | refine y2 ?_ | refine y3 ?_ | refine y4 ?_ | refine y5 ?_ | refine y6 ?_ | refine y7 ?_ | refine y8 ?_ | refine Rt.p (fun _ => ?_) fun _ => ?_)
        | ((with_reducible apply w_ixM); (focus exact rfl); (focus exact rfl); case' hk => intro y hy) | ((with_reducible (first | apply w_val | apply q_ends)); (focus exact rfl)))
      refine q_loop (pre ++ [y], post, _) ?_ ?_ (by repeat' (first | exact slots_nil | apply slots_cons | rfl | (rw [map_snoc]; rfl) | (rw [len_snoc]; rfl) | (rw [hS]; rfl) | (rw [hS, map_snoc]; rfl) | (refine int_eq ?_; (try dsimp only); omega) | (refine congrArg AV.bool ?_; simp_all; done))) (by repeat' (first | exact slots_nil | apply slots_cons | rfl | (rw [map_snoc]; rfl) | (rw [len_snoc]; rfl) | (rw [hS]; rfl) | (rw [hS, map_snoc]; rfl) | (refine int_eq ?_; (try dsimp only); omega) | (refine congrArg AV.bool ?_; simp_all; done))) (by repeat' (first | exact kept_nil | apply kept_cons | rfl)) (by repeat' (first | exact kept_nil | apply kept_cons | rfl))
      · rw [hp]; simp
      · simp
  have hin : i = n := by omega
  subst hin
  have hll : (turnsL i i).length = i := by simp [turnsL]
  by_cases hodd : (i : Int).tmod 2 = 1 ∧ 1 < i
  case neg =>
    have hR : roundsL i = turnsL i i := by rw [roundsL, if_neg hodd, List.append_nil]
    repeat' (first
      | with_reducible (first | refine Rd.p ?_ | refine zE ?_ | refine zE0 ?_)
      | with_reducible (first | refine zI fun y hy => ?_ | refine zL ?_ | refine zS ?_ | refine zA fun _ => ?_ | refine zV ?_ | refine zC ?_ | refine zG ?_ | refine zU ?_ | refine zG0 ?_ | refine zU0 ?_ | refine zF ?_)
      | with_reducible (first | refine zX ?_ | refine zD fun _ => ?_ | refine zD0 ?_ | refine zN ?_ | refine zF0 ?_ | refine zX0 ?_ | refine z1 ?_ | refine z2 ?_ | refine z3 ?_ | refine z4 ?_ | refine z5 ?_ | refine z6 ?_ | refine z7 ?_ | refine z8 ?_ | refine y1 ?_ | refine y2 ?_ | refine y3 ?_ | refine y4 ?_ | refine y5 ?_ | refine y6 ?_ | refine y7 ?_ | refine y8 ?_ | refine Rt.p (fun _ => ?_) fun _ => ?_)
      | ((with_reducible apply w_ixM); (focus exact rfl); (focus exact rfl); case' hk => intro y hy) | ((with_reducible (first | apply w_val | apply q_ends)); (focus exact rfl)))
    all_goals first | (exfalso; omega) | (rw [hR]; rfl)
  have hR : roundsL i = turnsL i i ++ (turnsL i i).map List.reverse := by rw [roundsL, if_pos hodd]
  repeat' (first
    | with_reducible (first | refine Rd.p ?_ | refine zE ?_ | refine zE0 ?_)
    | with_reducible (first | refine zI fun y hy => ?_ | refine zL ?_ | refine zS ?_ | refine zA fun _ => ?_ | refine zV ?_ | refine zC ?_ | refine zG ?_ | refine zU ?_ | refine zG0 ?_ | refine zU0 ?_ | refine zF ?_)
    | with_reducible (first | refine zX ?_ | refine zD fun _ => ?_ | refine zD0 ?_ | refine zN ?_ | refine zF0 ?_ | refine zX0 ?_ | refine z1 ?_ | refine z2 ?_ | refine z3 ?_ | refine z4 ?_ | refine z5 ?_ | refine z6 ?_ | refine z7 ?_ | refine z8 ?_ | refine y1 ?_ | refine y2 ?_ | refine y3 ?_ | refine y4 ?_ | refine y5 ?_ | refine y6 ?_ | refine y7 ?_ | refine y8 ?_ | refine Rt.p (fun _ => ?_) fun _ => ?_)
    | ((with_reducible apply w_ixM); (focus exact rfl); (focus exact rfl); case' hk => intro y hy) | ((with_reducible (first | apply w_val | apply q_ends)); (focus exact rfl)))
  refine w_loopK [69] [] (fun x : Nat × Nat => x.1 ≤ i) (fun x => i - x.1) (fun x => [(70, .int .i64 x.1), (7, .slc 1 (llR (turnsL i i ++ ((turnsL i i).take x.1).map List.reverse)) (.own 7 x.2))]) (fun x => [(7, (x.2, .row []))]) (0, g7) (Nat.zero_le _)
    ⟨rfl, by rw [List.take_zero, List.map_nil, List.append_nil]; rfl, trivial⟩ ⟨rfl, trivial⟩ ?_
  rintro ⟨k, g7⟩ hk e2 σ2
  dsimp only at hk ⊢
  generalize hT : turnsL i i = T at hll htl hR ⊢
  have hol : (llR (T ++ (T.take k).map List.reverse)).length = i + k := by simp; omega
  by_cases hkn : k < i
  case neg =>
    have hki : k = i := by omega
    have hTt : T.take k = T := List.take_of_length_le (by omega)
    rw [hTt]
    repeat' (first
      | with_reducible (first | refine Rd.p ?_ | refine zE ?_ | refine zE0 ?_)
      | with_reducible (first | refine zI fun y hy => ?_ | refine zL ?_ | refine zS ?_ | refine zA fun _ => ?_ | refine zV ?_ | refine zC ?_ | refine zG ?_ | refine zU ?_ | refine zG0 ?_ | refine zU0 ?_ | refine zF ?_)
      | with_reducible (first | refine zX ?_ | refine zD fun _ => ?_ | refine zD0 ?_ | refine zN ?_ | refine zF0 ?_ | refine zX0 ?_ | refine z1 ?_ | refine z2 ?_ | refine z3 ?_ | refine z4 ?_ | refine z5 ?_ | refine z6 ?_ | refine z7 ?_ | refine z8 ?_ | refine y1 ?_ | refine y2 ?_ | refine y3 ?_ | refine y4 ?_ | refine y5 ?_ | refine y6 ?_ | refine y7 ?_ | refine y8 ?_ | refine Rt.p (fun _ => ?_) fun _ => ?_)
      | ((with_reducible apply w_ixM); (focus exact rfl); (focus exact rfl); case' hk => intro y hy) | ((with_reducible (first | apply w_val | apply q_ends)); (focus exact rfl)))
    rw [hR]; rfl
  have hTk : T[k]? = some (turnL i k (firstL i)) := by rw [← hT, turnsL, List.getElem?_map, List.getElem?_range hkn]; rfl
  have hfq : (turnL i k (firstL i)).length ≤ 25 := by simp [turnL]; omega
  cases hq : turnL i k (firstL i) with
  | nil => simp [turnL, firstL] at hq
  | cons a l =>
    rw [hq] at hTk hfq
    simp only [List.length_cons] at hfq
    have hfq2 : (a :: l).length < 1000 := by simp only [List.length_cons]; omega
    have hK : (T ++ (T.take k).map List.reverse)[((k : Nat) : Int).toNat]? = some (a :: l) := by
      rw [Int.toNat_natCast, List.getElem?_append_left (by omega), hTk]
    have hS : T ++ (T.take (k + 1)).map List.reverse = (T ++ (T.take k).map List.reverse) ++ [(a :: l).reverse] := by
      rw [List.take_add_one, hTk]; simp
    repeat' (first
      | with_reducible (first | refine Rd.p ?_ | refine zE ?_ | refine zE0 ?_)
      | (with_reducible refine zK hK ?_)
      | with_reducible (first | refine zI fun y hy => ?_ | refine zL ?_ | refine zS ?_ | refine zA fun _ => ?_ | refine zV ?_ | refine zC ?_ | refine zG ?_ | refine zU ?_ | refine zG0 ?_ | refine zU0 ?_ | refine zF ?_)
      | ((with_reducible refine acall_id ?_); (refine ACall.cloneW (by omega) fun g77 => ?_))
      | ((with_reducible refine acall_id ?_); (refine ACall.reverseW rfl hfq2 ?_))
      | with_reducible (first | refine zX ?_ | refine zD fun _ => ?_ | refine zD0 ?_ | refine zN ?_ | refine zF0 ?_ | refine zX0 ?_ | refine z1 ?_ | refine z2 ?_ | refine z3 ?_ | refine z4 ?_ | refine z5 ?_ | refine z6 ?_ | refine z7 ?_ | refine z8 ?_ | refine y1 ?_ | refine y2 ?_ | refine y3 ?_ | refine y4 ?_ | refine y5 ?_ | refine y6 ?_ | refine y7 ?_ | refine y8 ?_ | refine Rt.p (fun _ => ?_) fun _ => ?_)
      | ((with_reducible apply w_ixM); (focus exact rfl); (focus exact rfl); case' hk => intro y hy) | ((with_reducible (first | apply w_val | apply q_ends)); (focus exact rfl)))
    rename_i g77
    refine w_frzI (xs := (a :: l).reverse) (i := 77) (g := g77) (n := (a :: l).length) rfl ?_ (by rw [List.length_reverse]) ?_
    · show (g77, Res.row (rowI (a :: l).length fun k => (a :: l).getD ((a :: l).length - 1 - k) 0)) = _
      rw [rev_row]
    repeat' (first
      | with_reducible (first | refine Rd.p ?_ | refine zE ?_ | refine zE0 ?_)
      | with_reducible (first | refine zI fun y hy => ?_ | refine zL ?_ | refine zS ?_ | refine zA fun _ => ?_ | refine zV ?_ | refine zC ?_ | refine zG ?_ | refine zU ?_ | refine zG0 ?_ | refine zU0 ?_ | refine zF ?_)
      | with_reducible (first | refine zX ?_ | refine zD fun _ => ?_ | refine zD0 ?_ | refine zN ?_ | refine zF0 ?_ | refine zX0 ?_ | refine z1 ?_ | refine z2 ?_ | refine z3 ?_ | refine z4 ?_ | refine z5 ?_ | refine z6 ?_ | refine z7 ?_ | refine z8 ?_ | refine y1 ?_ | refine y2 ?_ | refine y3 ?_ | refine y4 ?_ | refine y5 ?_ | refine y6 ?_ | refine y7 ?_ | refine y8 ?_ | refine Rt.p (fun _ => ?_) fun _ => ?_)
      | ((with_reducible apply w_ixM); (focus exact rfl); (focus exact rfl); case' hk => intro y hy) | ((with_reducible (first | apply w_val | apply q_ends)); (focus exact rfl)))
    refine q_loop (k + 1, _) ?_ ?_ (by repeat' (first | exact slots_nil | apply slots_cons | rfl | (rw [map_snoc]; rfl) | (rw [len_snoc]; rfl) | (rw [hS]; rfl) | (rw [hS, map_snoc]; rfl) | (refine int_eq ?_; (try dsimp only); omega) | (refine congrArg AV.bool ?_; simp_all; done))) (by repeat' (first | exact slots_nil | apply slots_cons | rfl | (rw [map_snoc]; rfl) | (rw [len_snoc]; rfl) | (rw [hS]; rfl) | (rw [hS, map_snoc]; rfl) | (refine int_eq ?_; (try dsimp only); omega) | (refine congrArg AV.bool ?_; simp_all; done))) (by repeat' (first | exact kept_nil | apply kept_cons | rfl)) (by repeat' (first | exact kept_nil | apply kept_cons | rfl))
    · dsimp only; omega
    · dsimp only; omega
end Go.Abs
