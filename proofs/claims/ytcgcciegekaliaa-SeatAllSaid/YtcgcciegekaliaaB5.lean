/- A part of the proofs of the laws of this seat: contracts of the functions that they reach, each proved of the program's form in Lean. No condition beyond those that each contract names. -/
import Derived.Test.YtcgcciegekaliaaB4
import Derived.Test.YtcgcciegekaliaaB0
import Derived.Test.YtcgcciegekaliaaB3
import Derived.Test.YtcgcciegekaliaaB2
set_option linter.unusedVariables false
set_option linter.unusedSimpArgs false
set_option maxRecDepth 20000
set_option maxHeartbeats 4000000
/-! ### Menus of the program -/
namespace Go.Abs
open Go.Proofs
/-- aloeswood/seat.Menu -/
def ir22 : IFn :=
  ⟨57, [(8, some (1, false)), (9, some (1, false)), (10, none)], (.seq (.ops [⟨(some 4), none, (.box 1 (.t 0))⟩,
    ⟨(some 5), none, (.box 1 (.t 1))⟩,
    ⟨(some 6), none, (.box 1 (.t 2))⟩,
    ⟨(some 7), none, (.box 1 (.t 3))⟩,
    ⟨(some 8), none, (.new [.nsl])⟩,
    ⟨(some 9), none, (.new [(.int .i64 0)])⟩,
    ⟨(some 10), none, (.mov (.k (.int .i64 0)))⟩])
  (.seq (.seq (.ops [⟨(some 17), none, (.ld 1 false (.t 4))⟩,
    ⟨(some 18), none, (.len false (.t 17))⟩,
    ⟨(some 19), none, (.bin .gtr (.t 18) (.k (.int .i64 10)))⟩])
  (.cnd (.t 19)
    (.seq (.ops [⟨none, none, (.st 1 (.t 8) (.k .nsl))⟩,
      ⟨none, none, (.st 1 (.t 9) (.k (.int .i64 0)))⟩,
      ⟨(some 10), none, (.mov (.k (.int .i64 8)))⟩])
    .ret)
    .skip))
  (.seq (.seq (.ops [⟨(some 20), none, (.ld 1 false (.t 4))⟩,
    ⟨(some 21), none, (.callF 66 [(.t 20)])⟩,
    ⟨(some 11), none, (.mov (.t 21))⟩])
  (.seq (.ops [⟨(some 22), none, (.mov (.t 11))⟩,
    ⟨(some 23), none, (.bin .neq (.t 22) (.k (.int .i64 0)))⟩])
  (.cnd (.t 23)
    (.seq (.ops [⟨(some 24), none, (.mov (.t 11))⟩,
      ⟨none, none, (.st 1 (.t 8) (.k .nsl))⟩,
      ⟨none, none, (.st 1 (.t 9) (.k (.int .i64 0)))⟩,
      ⟨(some 10), none, (.mov (.t 24))⟩])
    .ret)
    .skip)))
  (.seq (.seq (.ops [⟨(some 25), none, (.ld 1 false (.t 5))⟩,
    ⟨(some 26), none, (.len false (.t 25))⟩,
    ⟨(some 27), none, (.bin .gtr (.t 26) (.k (.int .i64 16)))⟩])
  (.cnd (.t 27)
    (.seq (.ops [⟨none, none, (.st 1 (.t 8) (.k .nsl))⟩,
      ⟨none, none, (.st 1 (.t 9) (.k (.int .i64 0)))⟩,
      ⟨(some 10), none, (.mov (.k (.int .i64 8)))⟩])
    .ret)
    .skip))
  (.seq (.seq (.ops [⟨(some 28), none, (.ld 1 false (.t 5))⟩,
    ⟨(some 29), none, (.len false (.t 28))⟩,
    ⟨(some 30), none, (.mov (.k (.int .i64 0)))⟩])
  (.blk 0 (.loop (.seq (.ops [⟨(some 31), none, (.bin .lss (.t 30) (.t 29))⟩])
      (.seq (.cnd (.t 31)
        .skip
        (.exit 0))
      (.seq (.blk 1 (.seq (.ops [⟨(some 32), none, (.ixA 3 (.t 28) (.t 30))⟩,
          ⟨(some 33), none, (.ld 3 true (.t 32))⟩,
          ⟨(some 13), none, (.new [(.int .i64 0), (.int .i64 0), (.int .i64 0)])⟩,
          ⟨none, none, (.st 3 (.t 13) (.t 33))⟩])
        (.seq (.ops [⟨(some 34), none, (.ld 3 true (.t 13))⟩,
          ⟨(some 35), none, (.callF 67 [(.t 34)])⟩,
          ⟨(some 14), none, (.mov (.t 35))⟩])
        (.seq (.ops [⟨(some 36), none, (.mov (.t 14))⟩,
          ⟨(some 37), none, (.bin .neq (.t 36) (.k (.int .i64 0)))⟩])
        (.cnd (.t 37)
          (.seq (.ops [⟨(some 38), none, (.mov (.t 14))⟩,
            ⟨none, none, (.st 1 (.t 8) (.k .nsl))⟩,
            ⟨none, none, (.st 1 (.t 9) (.k (.int .i64 0)))⟩,
            ⟨(some 10), none, (.mov (.t 38))⟩])
          .ret)
          .skip)))))
      (.ops [⟨(some 39), none, (.bin .add (.t 30) (.k (.int .i64 1)))⟩,
        ⟨(some 30), none, (.mov (.t 39))⟩])))))))
  (.seq (.seq (.ops [⟨(some 40), none, (.ld 1 false (.t 6))⟩,
    ⟨(some 41), none, (.callF 68 [(.t 40), (.k (.int .i64 1)), (.k (.int .i64 4))])⟩,
    ⟨(some 42), none, (.not (.t 41))⟩,
    ⟨(some 43), none, (.mov (.t 42))⟩,
    ⟨(some 44), (some (43, false)), (.ld 1 false (.t 7))⟩,
    ⟨(some 45), (some (43, false)), (.ld 1 false (.t 6))⟩,
    ⟨(some 46), (some (43, false)), (.callF 68 [(.t 44), (.k (.int .i64 0)), (.t 45)])⟩,
    ⟨(some 47), (some (43, false)), (.not (.t 46))⟩,
    ⟨(some 48), none, (.pick (.t 43) (.k (.bool true)) (.t 47))⟩])
  (.cnd (.t 48)
    (.seq (.ops [⟨none, none, (.st 1 (.t 8) (.k .nsl))⟩,
      ⟨none, none, (.st 1 (.t 9) (.k (.int .i64 0)))⟩,
      ⟨(some 10), none, (.mov (.k (.int .i64 2)))⟩])
    .ret)
    .skip))
  (.seq (.ops [⟨(some 49), none, (.mkf (.func 69) [] [(.t 4), (.t 5), (.t 7)])⟩,
    ⟨(some 15), none, (.new [.nfn])⟩,
    ⟨none, none, (.st 1 (.t 15) (.t 49))⟩])
  (.seq (.ops [⟨(some 16), none, (.new [.nfn])⟩])
  (.seq (.ops [⟨(some 50), none, (.mkf (.func 71) [] [(.t 6), (.t 15), (.t 8), (.t 9), (.t 5), (.t 16)])⟩,
    ⟨none, none, (.st 1 (.t 16) (.t 50))⟩])
  (.seq (.ops [⟨(some 51), none, (.ld 1 false (.t 16))⟩,
    ⟨(some 52), none, (.callV (.t 51) [(.k .nsl), (.k (.int .i64 0))])⟩])
  (.seq (.seq (.ops [⟨(some 53), none, (.ld 1 false (.t 8))⟩,
    ⟨(some 54), none, (.eqn .slice false (.t 53) (.k .nsl))⟩])
  (.cnd (.t 54)
    (.seq (.ops [⟨none, none, (.st 1 (.t 8) (.k .nsl))⟩,
      ⟨none, none, (.st 1 (.t 9) (.k (.int .i64 0)))⟩,
      ⟨(some 10), none, (.mov (.k (.int .i64 7)))⟩])
    .ret)
    .skip))
  (.seq (.ops [⟨(some 55), none, (.ld 1 false (.t 8))⟩,
    ⟨(some 56), none, (.ld 1 false (.t 9))⟩,
    ⟨none, none, (.st 1 (.t 8) (.t 55))⟩,
    ⟨none, none, (.chk 1 false (.t 9) 56)⟩,
    ⟨none, none, (.st 1 (.t 9) (.t 56))⟩,
    ⟨(some 10), none, (.mov (.k (.int .i64 0)))⟩])
  .ret))))))))))))⟩
def hint22 (P : Program) : Hint := {}

/-- aloeswood/seat.Menu$1 -/
def ir69 : IFn :=
  ⟨37, [(5, none)], (.seq (.ops [⟨(some 5), none, (.mov (.k (.bool false)))⟩])
  (.seq (.seq (.ops [⟨(some 11), none, (.ld 1 false (.t 1))⟩,
    ⟨(some 12), none, (.len false (.t 11))⟩,
    ⟨(some 13), none, (.mov (.k (.int .i64 0)))⟩])
  (.blk 0 (.loop (.seq (.ops [⟨(some 14), none, (.bin .lss (.t 13) (.t 12))⟩])
      (.seq (.cnd (.t 14)
        .skip
        (.exit 0))
      (.seq (.blk 1 (.seq (.ops [⟨(some 15), none, (.ixA 5 (.t 11) (.t 13))⟩,
          ⟨(some 16), none, (.ld 5 true (.t 15))⟩,
          ⟨(some 7), none, (.new [(.str ByteArray.empty), (.int .i64 0), (.int .i64 0), (.int .i64 0), (.int .i64 0)])⟩,
          ⟨none, none, (.st 5 (.t 7) (.t 16))⟩])
        (.seq (.ops [⟨(some 8), none, (.mov (.k (.int .i64 0)))⟩])
        (.seq (.seq (.ops [⟨(some 17), none, (.mov (.t 0))⟩,
          ⟨(some 18), none, (.len false (.t 17))⟩,
          ⟨(some 19), none, (.mov (.k (.int .i64 0)))⟩])
        (.blk 2 (.loop (.seq (.ops [⟨(some 20), none, (.bin .lss (.t 19) (.t 18))⟩])
            (.seq (.cnd (.t 20)
              .skip
              (.exit 2))
            (.seq (.blk 3 (.seq (.ops [⟨(some 21), none, (.ixA 1 (.t 17) (.t 19))⟩,
                ⟨(some 22), none, (.ld 1 false (.t 21))⟩,
                ⟨(some 10), none, (.mov (.t 22))⟩])
              (.seq (.ops [⟨(some 23), none, (.ld 5 true (.t 7))⟩,
                ⟨(some 24), none, (.ld 1 false (.t 2))⟩,
                ⟨(some 25), none, (.mov (.t 10))⟩,
                ⟨(some 26), none, (.ixA 3 (.t 24) (.t 25))⟩,
                ⟨(some 27), none, (.ld 3 true (.t 26))⟩,
                ⟨(some 28), none, (.callF 70 [(.t 23), (.t 27)])⟩,
                ⟨(some 29), none, (.bin .eql (.t 28) (.k (.int .i64 1)))⟩])
              (.cnd (.t 29)
                (.ops [⟨(some 30), none, (.mov (.t 8))⟩,
                  ⟨(some 31), none, (.bin .add (.t 30) (.k (.int .i64 1)))⟩,
                  ⟨(some 8), none, (.mov (.t 31))⟩])
                .skip))))
            (.ops [⟨(some 32), none, (.bin .add (.t 19) (.k (.int .i64 1)))⟩,
              ⟨(some 19), none, (.mov (.t 32))⟩])))))))
        (.seq (.ops [⟨(some 33), none, (.mov (.t 8))⟩,
          ⟨(some 34), none, (.ld 1 false (.t 3))⟩,
          ⟨(some 35), none, (.bin .lss (.t 33) (.t 34))⟩])
        (.cnd (.t 35)
          (.seq (.ops [⟨(some 5), none, (.mov (.k (.bool false)))⟩])
          .ret)
          .skip))))))
      (.ops [⟨(some 36), none, (.bin .add (.t 13) (.k (.int .i64 1)))⟩,
        ⟨(some 13), none, (.mov (.t 36))⟩])))))))
  (.seq (.ops [⟨(some 5), none, (.mov (.k (.bool true)))⟩])
  .ret)))⟩
def hint69 (P : Program) : Hint := {}

/-- aloeswood/seat.Menu$2 -/
def ir71 : IFn :=
  ⟨55, [], (.seq (.seq (.ops [⟨(some 12), none, (.mov (.t 0))⟩,
    ⟨(some 13), none, (.len false (.t 12))⟩,
    ⟨(some 14), none, (.ld 1 false (.t 2))⟩,
    ⟨(some 15), none, (.bin .eql (.t 13) (.t 14))⟩])
  (.cnd (.t 15)
    (.seq (.seq (.ops [⟨(some 16), none, (.ld 1 false (.t 3))⟩,
      ⟨(some 17), none, (.mov (.t 0))⟩,
      ⟨(some 18), none, (.callV (.t 16) [(.t 17)])⟩,
      ⟨(some 19), none, (.mov (.t 18))⟩,
      ⟨(some 20), (some (19, true)), (.ld 1 false (.t 4))⟩,
      ⟨(some 21), (some (19, true)), (.eqn .slice false (.t 20) (.k .nsl))⟩,
      ⟨(some 22), (some (19, true)), (.mov (.t 21))⟩,
      ⟨(some 23), (some (22, false)), (.mov (.t 1))⟩,
      ⟨(some 24), (some (22, false)), (.ld 1 false (.t 5))⟩,
      ⟨(some 25), (some (22, false)), (.bin .lss (.t 23) (.t 24))⟩,
      ⟨(some 26), (some (19, true)), (.pick (.t 22) (.k (.bool true)) (.t 25))⟩,
      ⟨(some 27), none, (.pick (.t 19) (.t 26) (.k (.bool false)))⟩])
    (.cnd (.t 27)
      (.ops [⟨(some 28), none, (.mov (.t 0))⟩,
        ⟨(some 29), none, (.callF 72 [(.t 28)])⟩,
        ⟨(some 30), none, (.mov (.t 1))⟩,
        ⟨none, none, (.st 1 (.t 4) (.t 29))⟩,
        ⟨none, none, (.st 1 (.t 5) (.t 30))⟩])
      .skip))
    .ret)
    .skip))
  (.seq (.ops [⟨(some 31), none, (.ld 1 false (.t 6))⟩,
    ⟨(some 32), none, (.len false (.t 31))⟩,
    ⟨(some 33), none, (.mov (.k (.int .i64 0)))⟩])
  (.blk 0 (.loop (.seq (.ops [⟨(some 34), none, (.bin .lss (.t 33) (.t 32))⟩])
      (.seq (.cnd (.t 34)
        .skip
        (.exit 0))
      (.seq (.blk 1 (.seq (.ops [⟨(some 35), none, (.mov (.t 33))⟩,
          ⟨(some 36), none, (.ixA 3 (.t 31) (.t 33))⟩,
          ⟨(some 37), none, (.ld 3 true (.t 36))⟩,
          ⟨(some 11), none, (.new [(.int .i64 0), (.int .i64 0), (.int .i64 0)])⟩,
          ⟨(some 10), none, (.mov (.t 35))⟩,
          ⟨none, none, (.st 3 (.t 11) (.t 37))⟩])
        (.seq (.ops [⟨(some 38), none, (.flA 0 (.t 11))⟩,
          ⟨(some 39), none, (.ld 1 false (.t 38))⟩,
          ⟨(some 40), none, (.mov (.t 0))⟩,
          ⟨(some 41), none, (.len false (.t 40))⟩,
          ⟨(some 42), none, (.bin .eql (.t 39) (.t 41))⟩])
        (.cnd (.t 42)
          (.ops [⟨(some 43), none, (.ld 1 false (.t 7))⟩,
            ⟨(some 44), none, (.mov (.t 0))⟩,
            ⟨(some 46), none, (.mov (.t 10))⟩,
            ⟨(some 47), none, (.bsl 1 [[(.int .i64 0)]] [(0, (.t 46))])⟩,
            ⟨(some 49), none, (.mov (.t 1))⟩,
            ⟨(some 50), none, (.flA 2 (.t 11))⟩,
            ⟨(some 51), none, (.ld 1 false (.t 50))⟩,
            ⟨(some 52), none, (.bin .add (.t 49) (.t 51))⟩,
            ⟨(some 45), none, (.callF 72 [(.t 44)])⟩,
            ⟨none, none, (.chk 1 false (.t 7) 43)⟩,
            ⟨none, none, (.chk 1 false (.t 50) 51)⟩,
            ⟨(some 48), none, (.app 1 8 (.t 45) (.t 47) 48)⟩,
            ⟨none, none, (.chk 1 false (.t 7) 43)⟩,
            ⟨none, none, (.chk 1 false (.t 50) 51)⟩,
            ⟨(some 53), none, (.callV (.t 43) [(.t 48), (.t 52)])⟩])
          .skip))))
      (.ops [⟨(some 54), none, (.bin .add (.t 33) (.k (.int .i64 1)))⟩,
        ⟨(some 33), none, (.mov (.t 54))⟩]))))))))⟩
def hint71 (P : Program) : Hint := {}

def costM (ds : List Dish) : List Int → Int
  | [] => 0
  | i :: r => (dAt ds i).cost + costM ds r
theorem costM_snoc (ds : List Dish) (i : Int) : ∀ m, costM ds (m ++ [i]) = costM ds m + (dAt ds i).cost
  | [] => by simp [costM]
  | x :: m => by simp only [List.cons_append, costM, costM_snoc ds i m]; omega
def dsOK (ds : List Dish) : Prop := ∀ d ∈ ds, dErr d = 0
theorem dErr_0 {d : Dish} (h : dErr d = 0) : (0 ≤ d.turn ∧ d.turn ≤ 3) ∧ (0 ≤ d.parts ∧ d.parts ≤ 255) ∧ 0 ≤ d.cost ∧ d.cost ≤ 1000 := by
  unfold dErr at h
  split at h
  · rename_i h2; clear h; simp only [Bool.and_eq_true, inB_t] at h2; exact ⟨h2.1.1, h2.1.2, h2.2⟩
  · cases h
theorem dAt_cost {ds : List Dish} (h : dsOK ds) (i : Int) : 0 ≤ (dAt ds i).cost ∧ (dAt ds i).cost ≤ 1000 := by
  unfold dAt
  cases hi : ds[i.toNat]? with
  | none => simp
  | some d => exact (dErr_0 (h d (List.mem_of_getElem? hi))).2.2
theorem costM_bd {ds : List Dish} (h : dsOK ds) : ∀ m, 0 ≤ costM ds m ∧ costM ds m ≤ 1000 * m.length
  | [] => by simp [costM]
  | i :: m => by
    have := costM_bd h m
    have := dAt_cost h i
    simp only [costM, List.length_cons]; omega
def optV (o : Option (List Int)) : AV := match o with
  | none => .nsl
  | some l => .slc 1 (iR l) .non
theorem ren_optV (ρ : List (Nat × Nat)) (o : Option (List Int)) : ren ρ (optV o) = optV o := by cases o <;> rfl
theorem optSlot {ρ : List (Nat × Nat)} {g : Nat} {o : Option (List Int)} : ((g, renR ρ (.row [optV o])) : Nat × Res) = (g, .row [optV o]) := by simp [renR, renL, ren_optV]
/-- The best menu so far, and its price. -/
def stepM (l : List Guest) (ds : List Dish) (need : Int) (acc : Option (List Int) × Int) (m : List Int) : Option (List Int) × Int :=
  if enoughB l ds m need = true ∧ (acc.1 = none ∨ costM ds m < acc.2) then (some m, costM ds m) else acc
def okAcc (acc : Option (List Int) × Int) : Prop := (∀ m, acc.1 = some m → m ≠ [])
theorem okAcc_fold {l : List Guest} {ds : List Dish} {need : Int} : ∀ {ms : List (List Int)} {acc}, okAcc acc → (∀ m ∈ ms, m ≠ []) → okAcc (ms.foldl (stepM l ds need) acc)
  | [], _, h, _ => h
  | m :: ms, acc, h, hm => by
    refine okAcc_fold (ms := ms) ?_ fun x hx => hm x (by simp [hx])
    unfold stepM
    split
    · intro x hx; cases hx; exact hm m (by simp)
    · exact h
theorem enough_c (ga gb gc : Nat) (l : List Guest) (ds : List Dish) (m : List Int) (need : Int) (hl0 : l.length < 1000) (hm0 : m.length < 1000) (hm : ∀ i ∈ m, 0 ≤ i ∧ i < ds.length) :
    RawC Try.prog 69 [.slc 1 (iR m) .non, .ref 1000 ga 0, .ref 1001 gb 0, .ref 1002 gc 0] (sg [(1000, (ga, .row [.slc 5 (gR l) .non])), (1001, (gb, .row [.slc 3 (dR ds) .non])), (1002, (gc, .row [.int .i64 need]))])
      (SR (fun _ : Unit => fun v => v = .bool (enoughB l ds m need)) (fun _ => [(1000, (ga, .row [.slc 5 (gR l) .non])), (1001, (gb, .row [.slc 3 (dR ds) .non])), (1002, (gc, .row [.int .i64 need]))])) := by
  refine RawC.walk (H := hint69 Try.prog) ir69 Try.func69 rfl rfl rfl ?_
  unfold ir69
  repeat' (first
    | with_reducible (first | refine Rd.p ?_ | refine zE ?_ | refine zE0 ?_)
    | with_reducible (first | refine zI fun y hy => ?_ | refine zL ?_ | refine zS ?_ | refine zA fun _ => ?_ | refine zV ?_ | refine zC ?_ | refine zG ?_ | refine zU ?_ | refine zG0 ?_ | refine zU0 ?_ | refine zF ?_)
    | with_reducible (first | refine zX ?_ | refine zD fun _ => ?_ | refine zD0 ?_ | refine zN ?_ | refine zF0 ?_ | refine zX0 ?_ | refine z1 ?_ | refine z2 ?_ | refine z3 ?_ | refine z4 ?_ | refine z5 ?_ | refine z6 ?_ | refine z7 ?_ | refine z8 ?_ | refine y1 ?_ | refine y2 ?_ | refine y3 ?_ | refine y4 ?_ | refine y5 ?_ | refine y6 ?_ | refine y7 ?_ | refine y8 ?_ | refine Rt.p (fun _ => ?_) fun _ => ?_)
    | ((with_reducible apply w_ixM); (focus exact rfl); (focus exact rfl); case' hk => intro y hy) | ((with_reducible (first | apply w_val | apply q_ends)); (focus exact rfl)))
  refine w_loopK [0, 2, 3, 11, 12] [1000, 1001, 1002] (fun x : List Guest × List Guest => l = x.1 ++ x.2 ∧ x.1.all (fun g => decide (need ≤ eatN ds g m)) = true) (fun x => x.2.length) (fun x => [(13, .int .i64 x.1.length)]) (fun _ => []) ([], l) ⟨rfl, rfl⟩ ⟨rfl, trivial⟩ trivial ?_
  rintro ⟨pre, post⟩ ⟨hl, hb⟩ e σ
  dsimp only at hl hb ⊢
  have hlen := congrArg List.length hl
  cases post with
  | nil =>
    simp only [List.append_nil, List.length_append, List.length_nil] at hlen
    repeat' (first
      | with_reducible (first | refine Rd.p ?_ | refine zE ?_ | refine zE0 ?_)
      | with_reducible (first | refine zI fun y hy => ?_ | refine zL ?_ | refine zS ?_ | refine zA fun _ => ?_ | refine zV ?_ | refine zC ?_ | refine zG ?_ | refine zU ?_ | refine zG0 ?_ | refine zU0 ?_ | refine zF ?_)
      | with_reducible (first | refine zX ?_ | refine zD fun _ => ?_ | refine zD0 ?_ | refine zN ?_ | refine zF0 ?_ | refine zX0 ?_ | refine z1 ?_ | refine z2 ?_ | refine z3 ?_ | refine z4 ?_ | refine z5 ?_ | refine z6 ?_ | refine z7 ?_ | refine z8 ?_ | refine y1 ?_ | refine y2 ?_ | refine y3 ?_ | refine y4 ?_ | refine y5 ?_ | refine y6 ?_ | refine y7 ?_ | refine y8 ?_ | refine Rt.p (fun _ => ?_) fun _ => ?_)
      | ((with_reducible apply w_ixM); (focus exact rfl); (focus exact rfl); case' hk => intro y hy) | ((with_reducible (first | apply w_val | apply q_ends)); (focus exact rfl)))
    exact ⟨(), congrArg AV.bool (by unfold enoughB; rw [hl, List.append_nil, hb]), rfl, rfl, rfl, trivial⟩
  | cons c post =>
    simp only [List.length_append, List.length_cons] at hlen
    repeat' (first
      | with_reducible (first | refine Rd.p ?_ | refine zE ?_ | refine zE0 ?_)
      | (refine w_ixP hl rfl rfl ?_)
      | with_reducible (first | refine zI fun y hy => ?_ | refine zL ?_ | refine zS ?_ | refine zA fun _ => ?_ | refine zV ?_ | refine zC ?_ | refine zG ?_ | refine zU ?_ | refine zG0 ?_ | refine zU0 ?_ | refine zF ?_)
      | with_reducible (first | refine zX ?_ | refine zD fun _ => ?_ | refine zD0 ?_ | refine zN ?_ | refine zF0 ?_ | refine zX0 ?_ | refine z1 ?_ | refine z2 ?_ | refine z3 ?_ | refine z4 ?_ | refine z5 ?_ | refine z6 ?_ | refine z7 ?_ | refine z8 ?_ | refine y1 ?_ | refine y2 ?_ | refine y3 ?_ | refine y4 ?_ | refine y5 ?_ | refine y6 ?_ | refine y7 ?_ | refine y8 ?_ | refine Rt.p (fun _ => ?_) fun _ => ?_)
      | ((with_reducible apply w_ixM); (focus exact rfl); (focus exact rfl); case' hk => intro y hy) | ((with_reducible (first | apply w_val | apply q_ends)); (focus exact rfl)))
    rename_i gg
    refine w_loopK [0, 2, 3, 7, 11, 12, 13, 17, 18] [1000, 1001, 1002, 7] (fun x : List Int × List Int => m = x.1 ++ x.2) (fun x => x.2.length) (fun x => [(19, .int .i64 x.1.length), (8, .int .i64 (eatN ds c x.1))]) (fun _ => []) ([], m) rfl ⟨rfl, rfl, trivial⟩ trivial ?_
    rintro ⟨pre1, post1⟩ hl1 e σ
    dsimp only at hl1 ⊢
    have hlen1 := congrArg List.length hl1
    have hbd := eatN_bd ds c pre1
    cases post1 with
    | nil =>
      simp only [List.append_nil, List.length_append, List.length_nil] at hlen1 hl1
      subst hl1
      repeat' (first
        | with_reducible (first | refine Rd.p ?_ | refine zE ?_ | refine zE0 ?_)
        | with_reducible (first | refine zI fun y hy => ?_ | refine zL ?_ | refine zS ?_ | refine zA fun _ => ?_ | refine zV ?_ | refine zC ?_ | refine zG ?_ | refine zU ?_ | refine zG0 ?_ | refine zU0 ?_ | refine zF ?_)
        | with_reducible (first | refine zX ?_ | refine zD fun _ => ?_ | refine zD0 ?_ | refine zN ?_ | refine zF0 ?_ | refine zX0 ?_ | refine z1 ?_ | refine z2 ?_ | refine z3 ?_ | refine z4 ?_ | refine z5 ?_ | refine z6 ?_ | refine z7 ?_ | refine z8 ?_ | refine y1 ?_ | refine y2 ?_ | refine y3 ?_ | refine y4 ?_ | refine y5 ?_ | refine y6 ?_ | refine y7 ?_ | refine y8 ?_ | refine Rt.p (fun _ => ?_) fun _ => ?_)
        | ((with_reducible apply w_ixM); (focus exact rfl); (focus exact rfl); case' hk => intro y hy) | ((with_reducible (first | apply w_val | apply q_ends)); (focus exact rfl)))
      · exact ⟨(), congrArg AV.bool (by unfold enoughB; rw [hl, List.all_append, hb]; simp; intro h; omega), rfl, rfl, rfl, trivial⟩
      · refine q_loop (pre ++ [c], post) ?_ ?_ (by repeat' (first | exact slots_nil | apply slots_cons | rfl | (rw [map_snoc]; rfl) | (rw [len_snoc]; rfl) | (rw [hS]; rfl) | (rw [hS, map_snoc]; rfl) | exact optSlot | (rw [ho]; rfl) | (refine int_eq ?_; (try dsimp only); omega) | (refine congrArg AV.bool ?_; simp_all; done))) (by repeat' (first | exact slots_nil | apply slots_cons | rfl | (rw [map_snoc]; rfl) | (rw [len_snoc]; rfl) | (rw [hS]; rfl) | (rw [hS, map_snoc]; rfl) | exact optSlot | (rw [ho]; rfl) | (refine int_eq ?_; (try dsimp only); omega) | (refine congrArg AV.bool ?_; simp_all; done))) (by repeat' (first | exact kept_nil | apply kept_cons | rfl)) (by repeat' (first | exact kept_nil | apply kept_cons | rfl))
        · exact ⟨by rw [hl]; simp, by rw [List.all_append, hb]; simp; omega⟩
        · simp
    | cons i post1 =>
      simp only [List.length_append, List.length_cons] at hlen1
      have hi := hm i (by rw [hl1]; simp)
      have hsn := eatN_snoc ds c i pre1
      repeat' (first
        | with_reducible (first | refine Rd.p ?_ | refine zE ?_ | refine zE0 ?_)
        | (refine w_ixP hl1 rfl rfl ?_)
        | with_reducible (first | refine zI fun y hy => ?_ | refine zL ?_ | refine zS ?_ | refine zA fun _ => ?_ | refine zV ?_ | refine zC ?_ | refine zG ?_ | refine zU ?_ | refine zG0 ?_ | refine zU0 ?_ | refine zF ?_)
        | ((with_reducible refine acall_id ?_); refine ACall.val (eats_c _ _) rfl rfl ?_)
        | with_reducible (first | refine zX ?_ | refine zD fun _ => ?_ | refine zD0 ?_ | refine zN ?_ | refine zF0 ?_ | refine zX0 ?_ | refine z1 ?_ | refine z2 ?_ | refine z3 ?_ | refine z4 ?_ | refine z5 ?_ | refine z6 ?_ | refine z7 ?_ | refine z8 ?_ | refine y1 ?_ | refine y2 ?_ | refine y3 ?_ | refine y4 ?_ | refine y5 ?_ | refine y6 ?_ | refine y7 ?_ | refine y8 ?_ | refine Rt.p (fun _ => ?_) fun _ => ?_)
        | ((with_reducible apply w_ixM); (focus exact rfl); (focus exact rfl); case' hk => intro y hy) | ((with_reducible (first | apply w_val | apply q_ends)); (focus exact rfl)))
      · rename_i h1
        rw [show dAt ds i = y by simp [dAt, hy], if_pos h1] at hsn
        refine q_loop (pre1 ++ [i], post1) ?_ ?_ (by repeat' (first | exact slots_nil | apply slots_cons | rfl | (rw [map_snoc]; rfl) | (rw [len_snoc]; rfl) | (rw [hS]; rfl) | (rw [hS, map_snoc]; rfl) | exact optSlot | (rw [ho]; rfl) | (refine int_eq ?_; (try dsimp only); omega) | (refine congrArg AV.bool ?_; simp_all; done))) (by repeat' (first | exact slots_nil | apply slots_cons | rfl | (rw [map_snoc]; rfl) | (rw [len_snoc]; rfl) | (rw [hS]; rfl) | (rw [hS, map_snoc]; rfl) | exact optSlot | (rw [ho]; rfl) | (refine int_eq ?_; (try dsimp only); omega) | (refine congrArg AV.bool ?_; simp_all; done))) (by repeat' (first | exact kept_nil | apply kept_cons | rfl)) (by repeat' (first | exact kept_nil | apply kept_cons | rfl))
        · rw [hl1]; simp
        · simp
      · rename_i h1
        rw [show dAt ds i = y by simp [dAt, hy], if_neg h1] at hsn
        refine q_loop (pre1 ++ [i], post1) ?_ ?_ (by repeat' (first | exact slots_nil | apply slots_cons | rfl | (rw [map_snoc]; rfl) | (rw [len_snoc]; rfl) | (rw [hS]; rfl) | (rw [hS, map_snoc]; rfl) | exact optSlot | (rw [ho]; rfl) | (refine int_eq ?_; (try dsimp only); omega) | (refine congrArg AV.bool ?_; simp_all; done))) (by repeat' (first | exact slots_nil | apply slots_cons | rfl | (rw [map_snoc]; rfl) | (rw [len_snoc]; rfl) | (rw [hS]; rfl) | (rw [hS, map_snoc]; rfl) | exact optSlot | (rw [ho]; rfl) | (refine int_eq ?_; (try dsimp only); omega) | (refine congrArg AV.bool ?_; simp_all; done))) (by repeat' (first | exact kept_nil | apply kept_cons | rfl)) (by repeat' (first | exact kept_nil | apply kept_cons | rfl))
        · rw [hl1]; simp
        · simp
/-- What the search holds: the best so far. -/
def tryS (l : List Guest) (ds : List Dish) (turns : Nat) (need : Int) (g0 g1 g2 g3 g4 g5 g6 g7 : Nat) (acc : Option (List Int) × Int) : List (Nat × (Nat × Res)) :=
  [(1000, (g0, .row [.int .i64 turns])), (1001, (g1, .row [.clo (.func 69) [] [.ref 1006 g6 0, .ref 1004 g4 0, .ref 1007 g7 0]])), (1002, (g2, .row [optV acc.1])), (1003, (g3, .row [.int .i64 acc.2])), (1004, (g4, .row [.slc 3 (dR ds) .non])),
   (1005, (g5, .row [.clo (.func 71) [] [.ref 1000 g0 0, .ref 1001 g1 0, .ref 1002 g2 0, .ref 1003 g3 0, .ref 1004 g4 0, .ref 1005 g5 0]])), (1006, (g6, .row [.slc 5 (gR l) .non])), (1007, (g7, .row [.int .i64 need]))]
theorem try_c (l : List Guest) (ds : List Dish) (turns : Nat) (need : Int) (g0 g1 g2 g3 g4 g5 g6 g7 : Nat) (hl0 : l.length < 1000) (hds : ds.length ≤ 16) (hok : dsOK ds) (h4 : turns ≤ 4) (h1 : 1 ≤ turns) :
    ∀ (k : Nat) (now : List Int) (a : AV) (acc : Option (List Int) × Int), now.length + k = turns → NowV a now → okAcc acc → (∀ i ∈ now, 0 ≤ i ∧ i < ds.length) →
    RawC Try.prog 71 [a, .int .i64 (costM ds now), .ref 1000 g0 0, .ref 1001 g1 0, .ref 1002 g2 0, .ref 1003 g3 0, .ref 1004 g4 0, .ref 1005 g5 0] (sg (tryS l ds turns need g0 g1 g2 g3 g4 g5 g6 g7 acc))
      (SR (fun (x : Option (List Int) × Int) v => v = .tup [] ∧ x = (menusK ds k now).foldl (stepM l ds need) acc) (fun x => tryS l ds turns need g0 g1 g2 g3 g4 g5 g6 g7 x))
  | 0, now, a, acc, hk, ha, hacc, hnow => by
    rcases ha with ⟨rfl, rfl⟩ | ⟨rfl, hne⟩
    · simp at hk; omega
    obtain ⟨o, c⟩ := acc
    have hst : (menusK ds 0 now).foldl (stepM l ds need) (o, c) = stepM l ds need (o, c) now := rfl
    have hcb := costM_bd hok now
    rw [hst]
    cases o with
    | none =>
      refine RawC.walk (H := hint71 Try.prog) ir71 Try.func71 rfl rfl rfl ?_
      unfold ir71
      repeat' (first
        | with_reducible (first | refine Rd.p ?_ | refine zE ?_ | refine zE0 ?_)
        | with_reducible (first | refine zI fun y hy => ?_ | refine zL ?_ | refine zS ?_ | refine zA fun _ => ?_ | refine zV ?_ | refine zC ?_ | refine zG ?_ | refine zU ?_ | refine zG0 ?_ | refine zU0 ?_ | refine zF ?_)
        | ((with_reducible refine acall_id ?_); refine ACall.liftS (enough_c _ _ _ _ _ _ _ hl0 (by omega) hnow) [(1000, 1006), (1001, 1004), (1002, 1007)] none rfl rfl rfl ⟨⟨_, rfl⟩, ⟨⟨_, rfl⟩, ⟨⟨_, rfl⟩, trivial⟩⟩⟩ (fun _ => rfl) ?_; rintro _ _ rfl)
        | ((with_reducible refine acall_id ?_); refine ACall.val (clone_c _ _ (.inr ⟨rfl, hne⟩) (by omega)) rfl rfl ?_)
        | with_reducible (first | refine zX ?_ | refine zD fun _ => ?_ | refine zD0 ?_ | refine zN ?_ | refine zF0 ?_ | refine zX0 ?_ | refine z1 ?_ | refine z2 ?_ | refine z3 ?_ | refine z4 ?_ | refine z5 ?_ | refine z6 ?_ | refine z7 ?_ | refine z8 ?_ | refine y1 ?_ | refine y2 ?_ | refine y3 ?_ | refine y4 ?_ | refine y5 ?_ | refine y6 ?_ | refine y7 ?_ | refine y8 ?_ | refine Rt.p (fun _ => ?_) fun _ => ?_)
        | ((with_reducible apply w_ixM); (focus exact rfl); (focus exact rfl); case' hk => intro y hy) | ((with_reducible (first | apply w_val | apply q_ends)); (focus exact rfl)))
      · rename_i hen
        rw [stepM, if_pos ⟨hen, .inl rfl⟩]
        exact ⟨_, ⟨rfl, rfl⟩, (by repeat' (first | exact slots_nil | apply slots_cons | rfl | (rw [map_snoc]; rfl) | (rw [len_snoc]; rfl) | (rw [hS]; rfl) | (rw [hS, map_snoc]; rfl) | exact optSlot | (rw [ho]; rfl) | (refine int_eq ?_; (try dsimp only); omega) | (refine congrArg AV.bool ?_; simp_all; done)))⟩
      · rename_i hen
        rw [stepM, if_neg (by simp [hen])]
        exact ⟨_, ⟨rfl, rfl⟩, (by repeat' (first | exact slots_nil | apply slots_cons | rfl | (rw [map_snoc]; rfl) | (rw [len_snoc]; rfl) | (rw [hS]; rfl) | (rw [hS, map_snoc]; rfl) | exact optSlot | (rw [ho]; rfl) | (refine int_eq ?_; (try dsimp only); omega) | (refine congrArg AV.bool ?_; simp_all; done)))⟩
    | some m0 =>
      have hm0 : iR m0 ≠ [] := by have := hacc m0 rfl; simpa using this
      refine RawC.walk (H := hint71 Try.prog) ir71 Try.func71 rfl rfl rfl ?_
      unfold ir71
      repeat' (first
        | with_reducible (first | refine Rd.p ?_ | refine zE ?_ | refine zE0 ?_)
        | with_reducible (first | refine zI fun y hy => ?_ | refine zL ?_ | refine zS ?_ | refine zA fun _ => ?_)
        | ((with_reducible apply w_ixM); (focus exact rfl); (focus exact rfl); (focus ((repeat' (with_reducible (first | exact trivial | apply And.intro))) <;> (first | exact hm0 | exact sd))); case' hk => intro y hy) | ((with_reducible apply w_slM); (focus exact rfl); (focus exact rfl); (focus exact rfl); (focus ((repeat' (with_reducible (first | exact trivial | apply And.intro))) <;> (first | exact hm0 | exact sd)))) | ((with_reducible apply w_val); (focus exact rfl); (focus ((repeat' (with_reducible (first | exact trivial | apply And.intro))) <;> (first | exact hm0 | exact sd)))) | ((with_reducible apply w_det); (focus exact fun _ => rfl); (focus ((repeat' (with_reducible (first | exact trivial | apply And.intro))) <;> (first | exact hm0 | exact sd))); case' hk => intro _) | ((with_reducible apply w_det0); (focus exact fun _ => rfl); (focus ((repeat' (with_reducible (first | exact trivial | apply And.intro))) <;> (first | exact hm0 | exact sd)))) | ((with_reducible apply q_ends); (focus exact rfl); (focus ((repeat' (with_reducible (first | exact trivial | apply And.intro))) <;> (first | exact hm0 | exact sd))))
        | with_reducible (first | refine zI fun y hy => ?_ | refine zL ?_ | refine zS ?_ | refine zA fun _ => ?_ | refine zV ?_ | refine zC ?_ | refine zG ?_ | refine zU ?_ | refine zG0 ?_ | refine zU0 ?_ | refine zF ?_)
        | ((with_reducible refine acall_id ?_); refine ACall.liftS (enough_c _ _ _ _ _ _ _ hl0 (by omega) hnow) [(1000, 1006), (1001, 1004), (1002, 1007)] none rfl rfl rfl ⟨⟨_, rfl⟩, ⟨⟨_, rfl⟩, ⟨⟨_, rfl⟩, trivial⟩⟩⟩ (fun _ => rfl) ?_; rintro _ _ rfl)
        | ((with_reducible refine acall_id ?_); refine ACall.val (clone_c _ _ (.inr ⟨rfl, hne⟩) (by omega)) rfl rfl ?_)
        | with_reducible (first | refine zX ?_ | refine zD fun _ => ?_ | refine zD0 ?_ | refine zN ?_ | refine zF0 ?_ | refine zX0 ?_ | refine z1 ?_ | refine z2 ?_ | refine z3 ?_ | refine z4 ?_ | refine z5 ?_ | refine z6 ?_ | refine z7 ?_ | refine z8 ?_ | refine y1 ?_ | refine y2 ?_ | refine y3 ?_ | refine y4 ?_ | refine y5 ?_ | refine y6 ?_ | refine y7 ?_ | refine y8 ?_ | refine Rt.p (fun _ => ?_) fun _ => ?_)
        | ((with_reducible apply w_ixM); (focus exact rfl); (focus exact rfl); case' hk => intro y hy) | ((with_reducible (first | apply w_val | apply q_ends)); (focus exact rfl)))
      · rename_i hen hlt
        rw [stepM, if_pos ⟨hen, .inr hlt⟩]
        exact ⟨_, ⟨rfl, rfl⟩, (by repeat' (first | exact slots_nil | apply slots_cons | rfl | (rw [map_snoc]; rfl) | (rw [len_snoc]; rfl) | (rw [hS]; rfl) | (rw [hS, map_snoc]; rfl) | exact optSlot | (rw [ho]; rfl) | (refine int_eq ?_; (try dsimp only); omega) | (refine congrArg AV.bool ?_; simp_all; done)))⟩
      · rename_i hen hlt
        rw [stepM, if_neg (by simp; intro _; omega)]
        exact ⟨_, ⟨rfl, rfl⟩, (by repeat' (first | exact slots_nil | apply slots_cons | rfl | (rw [map_snoc]; rfl) | (rw [len_snoc]; rfl) | (rw [hS]; rfl) | (rw [hS, map_snoc]; rfl) | exact optSlot | (rw [ho]; rfl) | (refine int_eq ?_; (try dsimp only); omega) | (refine congrArg AV.bool ?_; simp_all; done)))⟩
      · rename_i hen
        rw [stepM, if_neg (by simp [hen])]
        exact ⟨_, ⟨rfl, rfl⟩, (by repeat' (first | exact slots_nil | apply slots_cons | rfl | (rw [map_snoc]; rfl) | (rw [len_snoc]; rfl) | (rw [hS]; rfl) | (rw [hS, map_snoc]; rfl) | exact optSlot | (rw [ho]; rfl) | (refine int_eq ?_; (try dsimp only); omega) | (refine congrArg AV.bool ?_; simp_all; done)))⟩
  | k + 1, now, a, acc, hk, ha, hacc, hnow => by
    have hcb := costM_bd hok now
    have hNV := ha
    have hn16 : now.length ≤ 4 := by omega
    rcases ha with ⟨rfl, hn0⟩ | ⟨rfl, hne⟩
    all_goals
      refine RawC.walk (H := hint71 Try.prog) ir71 Try.func71 rfl rfl rfl ?_
      unfold ir71
      have hz : now = [] → now.length = 0 := fun h => by rw [h]; rfl
      repeat' (first
        | with_reducible (first | refine Rd.p ?_ | refine zE ?_ | refine zE0 ?_)
        | with_reducible (first | refine zI fun y hy => ?_ | refine zL ?_ | refine zS ?_ | refine zA fun _ => ?_ | refine zV ?_ | refine zC ?_ | refine zG ?_ | refine zU ?_ | refine zG0 ?_ | refine zU0 ?_ | refine zF ?_)
        | with_reducible (first | refine zX ?_ | refine zD fun _ => ?_ | refine zD0 ?_ | refine zN ?_ | refine zF0 ?_ | refine zX0 ?_ | refine z1 ?_ | refine z2 ?_ | refine z3 ?_ | refine z4 ?_ | refine z5 ?_ | refine z6 ?_ | refine z7 ?_ | refine z8 ?_ | refine y1 ?_ | refine y2 ?_ | refine y3 ?_ | refine y4 ?_ | refine y5 ?_ | refine y6 ?_ | refine y7 ?_ | refine y8 ?_ | refine Rt.p (fun _ => ?_) fun _ => ?_)
        | ((with_reducible apply w_ixM); (focus exact rfl); (focus exact rfl); case' hk => intro y hy) | ((with_reducible (first | apply w_val | apply q_ends)); (focus exact rfl)))
      refine w_loopK [0, 1, 2, 3, 4, 5, 6, 7, 31, 32] [1000, 1001, 1004, 1005, 1006, 1007]
        (fun x : List Dish × List Dish × (Option (List Int) × Int) => ds = x.1 ++ x.2.1 ∧ okAcc x.2.2 ∧ (menusK ds (k + 1) now).foldl (stepM l ds need) acc = ((idxF now.length x.1.length x.2.1).flatMap fun i => menusK ds k (now ++ [i])).foldl (stepM l ds need) x.2.2)
        (fun x => x.2.1.length) (fun x => [(33, .int .i64 x.1.length)]) (fun x => [(1002, (g2, .row [optV x.2.2.1])), (1003, (g3, .row [.int .i64 x.2.2.2]))]) ([], ds, acc) ⟨rfl, hacc, rfl⟩ ⟨rfl, trivial⟩ ⟨rfl, rfl, trivial⟩ ?_
      rintro ⟨pre, post, acc'⟩ ⟨hl, hacc', hf⟩ e σ
      dsimp only at hl hacc' hf ⊢
      have hlen := congrArg List.length hl
      cases post with
      | nil =>
        simp only [List.append_nil, List.length_append, List.length_nil] at hlen
        repeat' (first
          | with_reducible (first | refine Rd.p ?_ | refine zE ?_ | refine zE0 ?_)
          | with_reducible (first | refine zI fun y hy => ?_ | refine zL ?_ | refine zS ?_ | refine zA fun _ => ?_ | refine zV ?_ | refine zC ?_ | refine zG ?_ | refine zU ?_ | refine zG0 ?_ | refine zU0 ?_ | refine zF ?_)
          | with_reducible (first | refine zX ?_ | refine zD fun _ => ?_ | refine zD0 ?_ | refine zN ?_ | refine zF0 ?_ | refine zX0 ?_ | refine z1 ?_ | refine z2 ?_ | refine z3 ?_ | refine z4 ?_ | refine z5 ?_ | refine z6 ?_ | refine z7 ?_ | refine z8 ?_ | refine y1 ?_ | refine y2 ?_ | refine y3 ?_ | refine y4 ?_ | refine y5 ?_ | refine y6 ?_ | refine y7 ?_ | refine y8 ?_ | refine Rt.p (fun _ => ?_) fun _ => ?_)
          | ((with_reducible apply w_ixM); (focus exact rfl); (focus exact rfl); case' hk => intro y hy) | ((with_reducible (first | apply w_val | apply q_ends)); (focus exact rfl)))
        obtain ⟨o, c⟩ := acc'
        cases o <;> exact ⟨_, ⟨rfl, by rw [hf]⟩, (by repeat' (first | exact slots_nil | apply slots_cons | rfl | (rw [map_snoc]; rfl) | (rw [len_snoc]; rfl) | (rw [hS]; rfl) | (rw [hS, map_snoc]; rfl) | exact optSlot | (rw [ho]; rfl) | (refine int_eq ?_; (try dsimp only); omega) | (refine congrArg AV.bool ?_; simp_all; done)))⟩
      | cons d post =>
        simp only [List.length_append, List.length_cons] at hlen
        simp only [idxF] at hf
        have hd : dAt ds (pre.length : Int) = d := by unfold dAt; rw [hl]; simp
        have hdc := dAt_cost hok (pre.length : Int)
        rw [hd] at hdc
        have hcs : costM ds (now ++ [(pre.length : Int)]) = costM ds now + d.cost := by rw [costM_snoc, hd]
        have hrec := try_c l ds turns need g0 g1 g2 g3 g4 g5 g6 g7 hl0 hds hok h4 h1 k (now ++ [(pre.length : Int)]) _ acc' (by simp; omega) (.inr ⟨rfl, by simp⟩) hacc' (fun i hi => by
          rcases List.mem_append.1 hi with hi | hi
          · exact hnow i hi
          · simp at hi; subst hi; omega)
        rw [hcs] at hrec
        have hne2 : ∀ m ∈ menusK ds k (now ++ [(pre.length : Int)]), m ≠ [] := fun m hm h => by
          have := (menusK_mem hm).1
          rw [h] at this; simp at this; omega
        have hok2 := okAcc_fold (l := l) (ds := ds) (need := need) hacc' hne2
        (try have hzz := hz hn0)
        obtain ⟨o, c⟩ := acc'
        cases ho : o
        all_goals
          rw [ho] at hf hacc' hrec hok2
          repeat' (first
            | with_reducible (first | refine Rd.p ?_ | refine zE ?_ | refine zE0 ?_)
            | (refine w_ixP hl rfl rfl ?_)
            | with_reducible (first | refine zI fun y hy => ?_ | refine zL ?_ | refine zS ?_ | refine zA fun _ => ?_ | refine zV ?_ | refine zC ?_ | refine zG ?_ | refine zU ?_ | refine zG0 ?_ | refine zU0 ?_ | refine zF ?_)
            | ((with_reducible refine acall_id ?_); refine ACall.liftS (cloneO_c now _ hNV (by omega)) [] (some 2) rfl rfl rfl trivial (fun _ => rfl) ?_; rintro _ _ rfl)
            | ((with_reducible refine acall_id ?_); refine ACall.liftS hrec [(1000, 1000), (1001, 1001), (1002, 1002), (1003, 1003), (1004, 1004), (1005, 1005), (1006, 1006), (1007, 1007)] none rfl rfl rfl ⟨⟨_, rfl⟩, ⟨⟨_, rfl⟩, ⟨⟨_, rfl⟩, ⟨⟨_, rfl⟩, ⟨⟨_, rfl⟩, ⟨⟨_, rfl⟩, ⟨⟨_, rfl⟩, ⟨⟨_, rfl⟩, trivial⟩⟩⟩⟩⟩⟩⟩⟩ (fun _ => rfl) ?_; rintro ⟨o2, c2⟩ _ ⟨rfl, hx⟩)
            | with_reducible (first | refine zX ?_ | refine zD fun _ => ?_ | refine zD0 ?_ | refine zN ?_ | refine zF0 ?_ | refine zX0 ?_ | refine z1 ?_ | refine z2 ?_ | refine z3 ?_ | refine z4 ?_ | refine z5 ?_ | refine z6 ?_ | refine z7 ?_ | refine z8 ?_ | refine y1 ?_ | refine y2 ?_ | refine y3 ?_ | refine y4 ?_ | refine y5 ?_ | refine y6 ?_ | refine y7 ?_ | refine y8 ?_ | refine Rt.p (fun _ => ?_) fun _ => ?_)
            | ((with_reducible apply w_ixM); (focus exact rfl); (focus exact rfl); case' hk => intro y hy) | ((with_reducible (first | apply w_val | apply q_ends)); (focus exact rfl)))
          · rw [if_pos (by omega), List.flatMap_cons, List.foldl_append, ← hx] at hf
            rw [← hx] at hok2
            refine q_loop (pre ++ [d], post, o2, c2) ?_ ?_ (by repeat' (first | exact slots_nil | apply slots_cons | rfl | (rw [map_snoc]; rfl) | (rw [len_snoc]; rfl) | (rw [hS]; rfl) | (rw [hS, map_snoc]; rfl) | exact optSlot | (rw [ho]; rfl) | (refine int_eq ?_; (try dsimp only); omega) | (refine congrArg AV.bool ?_; simp_all; done))) (by repeat' (first | exact slots_nil | apply slots_cons | rfl | (rw [map_snoc]; rfl) | (rw [len_snoc]; rfl) | (rw [hS]; rfl) | (rw [hS, map_snoc]; rfl) | exact optSlot | (rw [ho]; rfl) | (refine int_eq ?_; (try dsimp only); omega) | (refine congrArg AV.bool ?_; simp_all; done))) (by repeat' (first | exact kept_nil | apply kept_cons | rfl)) (by repeat' (first | exact kept_nil | apply kept_cons | rfl))
            · exact ⟨by rw [hl]; simp, hok2, by rw [hf]; simp⟩
            · simp
          · rw [if_neg (by omega)] at hf
            refine q_loop (pre ++ [d], post, o, c) ?_ ?_ (by repeat' (first | exact slots_nil | apply slots_cons | rfl | (rw [map_snoc]; rfl) | (rw [len_snoc]; rfl) | (rw [hS]; rfl) | (rw [hS, map_snoc]; rfl) | exact optSlot | (rw [ho]; rfl) | (refine int_eq ?_; (try dsimp only); omega) | (refine congrArg AV.bool ?_; simp_all; done))) (by repeat' (first | exact slots_nil | apply slots_cons | rfl | (rw [map_snoc]; rfl) | (rw [len_snoc]; rfl) | (rw [hS]; rfl) | (rw [hS, map_snoc]; rfl) | exact optSlot | (rw [ho]; rfl) | (refine int_eq ?_; (try dsimp only); omega) | (refine congrArg AV.bool ?_; simp_all; done))) (by repeat' (first | exact kept_nil | apply kept_cons | rfl)) (by repeat' (first | exact kept_nil | apply kept_cons | rfl))
            · exact ⟨by rw [hl]; simp, by rw [ho]; exact hacc', by rw [hf, ho]; simp⟩
            · simp
end Go.Abs
