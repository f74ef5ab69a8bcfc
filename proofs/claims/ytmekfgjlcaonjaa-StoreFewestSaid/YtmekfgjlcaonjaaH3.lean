/- A part of the proofs of the laws of this seat: contracts of the functions that they reach, each proved of the program's form in Lean. No condition beyond those that each contract names. -/
import Derived.Test.YtmekfgjlcaonjaaH2
import Derived.Test.YtmekfgjlcaonjaaH1
import Derived.Test.YtmekfgjlcaonjaaC14
import Derived.Test.YtmekfgjlcaonjaaC11
import Derived.Test.YtmekfgjlcaonjaaC10
import Derived.Test.YtmekfgjlcaonjaaC2
import Derived.Test.YtmekfgjlcaonjaaC1
import Derived.Test.YtmekfgjlcaonjaaB
import Derived.Test.YtmekfgjlcaonjaaD8
set_option linter.unusedVariables false
set_option linter.unusedSimpArgs false
set_option maxRecDepth 20000
set_option maxHeartbeats 4000000
namespace Go.Abs
open Go.Proofs
/-- aloeswood/aloeswoodref01.Blocks -/
def ir102 : IFn :=
  ⟨19, [(2, none)], (.seq (.ops [⟨(some 2), none, (.mov (.k (.int .i64 0)))⟩])
  (.seq (.ops [⟨(some 3), none, (.mov (.k (.int .i64 0)))⟩])
  (.seq (.seq (.ops [⟨(some 4), none, (.mov (.k (.int .i64 0)))⟩])
  (.blk 0 (.loop (.seq (.seq (.ops [⟨(some 5), none, (.mov (.t 4))⟩,
        ⟨(some 6), none, (.mov (.t 0))⟩,
        ⟨(some 7), none, (.len false (.t 6))⟩,
        ⟨(some 8), none, (.bin .lss (.t 5) (.t 7))⟩])
      (.cnd (.t 8)
        .skip
        (.exit 0)))
      (.seq (.blk 1 (.ops [⟨(some 11), none, (.mov (.t 3))⟩,
          ⟨(some 12), none, (.mov (.t 0))⟩,
          ⟨(some 13), none, (.mov (.t 4))⟩,
          ⟨(some 14), none, (.ixA 1 (.t 12) (.t 13))⟩,
          ⟨(some 15), none, (.ld 1 false (.t 14))⟩,
          ⟨(some 16), none, (.bin .add (.t 15) (.k (.int .i64 1)))⟩,
          ⟨(some 17), none, (.mxi true (.t 11) (.t 16))⟩,
          ⟨(some 3), none, (.mov (.t 17))⟩]))
      (.ops [⟨(some 9), none, (.mov (.t 4))⟩,
        ⟨(some 10), none, (.bin .add (.t 9) (.k (.int .i64 1)))⟩,
        ⟨(some 4), none, (.mov (.t 10))⟩]))))))
  (.seq (.ops [⟨(some 18), none, (.mov (.t 3))⟩,
    ⟨(some 2), none, (.mov (.t 18))⟩])
  .ret))))⟩
def hint102 (P : Program) : Hint := {}
/-- aloeswood/aloeswoodref01.after -/
def ir126 : IFn :=
  ⟨44, [(2, none), (3, none)], (.seq (.ops [⟨(some 2), none, (.mov (.k .nsl))⟩,
    ⟨(some 3), none, (.mov (.k (.bool false)))⟩])
  (.seq (.seq (.ops [⟨(some 6), none, (.mov (.t 0))⟩,
    ⟨(some 7), none, (.len false (.t 6))⟩,
    ⟨(some 8), none, (.bin .sub (.t 7) (.k (.int .i64 1)))⟩,
    ⟨(some 4), none, (.mov (.t 8))⟩])
  (.blk 0 (.loop (.seq (.seq (.ops [⟨(some 9), none, (.mov (.t 4))⟩,
        ⟨(some 10), none, (.bin .gtr (.t 9) (.k (.int .i64 0)))⟩])
      (.cnd (.t 10)
        .skip
        (.exit 0)))
      (.seq (.blk 1 (.seq (.ops [⟨(some 13), none, (.mov (.t 0))⟩,
          ⟨(some 14), none, (.mov (.t 4))⟩,
          ⟨(some 15), none, (.ixA 1 (.t 13) (.t 14))⟩,
          ⟨(some 16), none, (.ld 1 false (.t 15))⟩,
          ⟨(some 17), none, (.mov (.t 0))⟩,
          ⟨(some 18), none, (.mov (.t 4))⟩,
          ⟨(some 19), none, (.slS 1 (.t 17) none (some (.t 18)) none)⟩,
          ⟨(some 20), none, (.callF 102 [(.t 19)])⟩,
          ⟨none, none, (.chk 1 false (.t 15) 16)⟩,
          ⟨(some 21), none, (.bin .lss (.t 16) (.t 20))⟩])
        (.cnd (.t 21)
          (.seq (.ops [⟨(some 22), none, (.bsl 1 [] [])⟩,
            ⟨(some 23), none, (.mov (.t 0))⟩,
            ⟨(some 24), none, (.mov (.t 4))⟩,
            ⟨(some 25), none, (.slS 1 (.t 23) none (some (.t 24)) none)⟩,
            ⟨(some 26), none, (.app 1 8 (.t 22) (.t 25) 5)⟩,
            ⟨(some 5), none, (.mov (.t 26))⟩])
          (.seq (.ops [⟨(some 27), none, (.mov (.t 5))⟩,
            ⟨(some 28), none, (.mov (.t 0))⟩,
            ⟨(some 29), none, (.mov (.t 4))⟩,
            ⟨(some 30), none, (.ixA 1 (.t 28) (.t 29))⟩,
            ⟨(some 31), none, (.ld 1 false (.t 30))⟩,
            ⟨(some 32), none, (.bin .add (.t 31) (.k (.int .i64 1)))⟩,
            ⟨(some 33), none, (.bsl 1 [[(.int .i64 0)]] [(0, (.t 32))])⟩,
            ⟨(some 34), none, (.app 1 8 (.t 27) (.t 33) 5)⟩,
            ⟨(some 5), none, (.mov (.t 34))⟩])
          (.seq (.blk 2 (.loop (.seq (.seq (.ops [⟨(some 35), none, (.mov (.t 5))⟩,
                ⟨(some 36), none, (.len false (.t 35))⟩,
                ⟨(some 37), none, (.mov (.t 0))⟩,
                ⟨(some 38), none, (.len false (.t 37))⟩,
                ⟨(some 39), none, (.bin .lss (.t 36) (.t 38))⟩])
              (.cnd (.t 39)
                .skip
                (.exit 2)))
              (.blk 3 (.ops [⟨(some 40), none, (.mov (.t 5))⟩,
                  ⟨(some 41), none, (.bsl 1 [[(.int .i64 0)]] [(0, (.k (.int .i64 0)))])⟩,
                  ⟨(some 42), none, (.app 1 8 (.t 40) (.t 41) 5)⟩,
                  ⟨(some 5), none, (.mov (.t 42))⟩])))))
          (.seq (.ops [⟨(some 43), none, (.mov (.t 5))⟩,
            ⟨(some 2), none, (.mov (.t 43))⟩,
            ⟨(some 3), none, (.mov (.k (.bool true)))⟩])
          .ret))))
          .skip)))
      (.ops [⟨(some 11), none, (.mov (.t 4))⟩,
        ⟨(some 12), none, (.bin .sub (.t 11) (.k (.int .i64 1)))⟩,
        ⟨(some 4), none, (.mov (.t 12))⟩]))))))
  (.seq (.ops [⟨(some 2), none, (.mov (.k .nsl))⟩,
    ⟨(some 3), none, (.mov (.k (.bool false)))⟩])
  .ret)))⟩
def hint126 (P : Program) : Hint := { site := [(26, 5), (34, 5), (42, 5)], nils := [], frz := [], mve := [], wr := [] }
/-- aloeswood/aloeswoodref01.All -/
def ir101 : IFn :=
  ⟨19, [(2, none)], (.seq (.ops [⟨(some 2), none, (.mov (.k .nsl))⟩])
  (.seq (.ops [⟨(some 6), none, (.mov (.t 0))⟩,
    ⟨(some 7), none, (.mks 1 8 [(.int .i64 0)] (.t 6) (.t 6))⟩,
    ⟨(some 3), none, (.mov (.t 7))⟩])
  (.seq (.ops [⟨(some 4), none, (.nil 1 4)⟩])
  (.seq (.seq (.seq (.frz (.t 3))
  (.ops [⟨(some 5), none, (.mov (.k (.bool true)))⟩]))
  (.blk 0 (.loop (.seq (.seq (.ops [⟨(some 8), none, (.mov (.t 5))⟩])
      (.cnd (.t 8)
        .skip
        (.exit 0)))
      (.seq (.blk 1 (.ops [⟨(some 14), none, (.mov (.t 4))⟩,
          ⟨(some 15), none, (.mov (.t 3))⟩,
          ⟨(some 16), none, (.bsl 1 [[.nsl]] [(0, (.t 15))])⟩,
          ⟨(some 17), none, (.app 1 24 (.t 14) (.t 16) 4)⟩,
          ⟨(some 4), none, (.mov (.t 17))⟩]))
      (.seq (.frz (.t 3))
      (.ops [⟨(some 10), none, (.mov (.t 3))⟩,
        ⟨(some 11), none, (.callF 126 [(.t 10)])⟩,
        ⟨(some 9), none, (.mov (.t 11))⟩,
        ⟨(some 12), none, (.ext 0 (.t 9))⟩,
        ⟨(some 13), none, (.ext 1 (.t 9))⟩,
        ⟨(some 3), none, (.mov (.t 12))⟩,
        ⟨(some 5), none, (.mov (.t 13))⟩])))))))
  (.seq (.ops [⟨(some 18), none, (.mov (.t 4))⟩,
    ⟨(some 2), none, (.mov (.t 18))⟩])
  .ret)))))⟩
def hint101 (P : Program) : Hint := { site := [(17, 4)], nils := [(4, 1)], frz := [(5, 3)], mve := [], wr := [] }
/-- aloeswood/aloeswoodlaw09.plans -/
def ir51 : IFn :=
  ⟨35, [(4, none)], (.seq (.ops [⟨(some 2), none, (.box 2 (.t 0))⟩,
    ⟨(some 4), none, (.mov (.k .nsl))⟩])
  (.seq (.seq (.ops [⟨(some 8), none, (.mov (.t 1))⟩,
    ⟨(some 9), none, (.bin .eql (.t 8) (.k (.int .i64 0)))⟩])
  (.cnd (.t 9)
    (.seq (.ops [⟨(some 10), none, (.bsl 1 [[.nsl]] [(0, (.k .nsl))])⟩,
      ⟨(some 4), none, (.mov (.t 10))⟩])
    .ret)
    .skip))
  (.seq (.ops [⟨(some 5), none, (.nil 1 5)⟩])
  (.seq (.ops [⟨(some 11), none, (.mov (.t 1))⟩,
    ⟨(some 12), none, (.callF 101 [(.t 11)])⟩,
    ⟨(some 6), none, (.mov (.t 12))⟩])
  (.seq (.seq (.ops [⟨(some 7), none, (.mov (.k (.int .i64 0)))⟩])
  (.blk 0 (.loop (.seq (.seq (.ops [⟨(some 13), none, (.mov (.t 7))⟩,
        ⟨(some 14), none, (.mov (.t 6))⟩,
        ⟨(some 15), none, (.len false (.t 14))⟩,
        ⟨(some 16), none, (.bin .lss (.t 13) (.t 15))⟩])
      (.cnd (.t 16)
        .skip
        (.exit 0)))
      (.seq (.blk 1 (.seq (.ops [⟨(some 19), none, (.mov (.t 6))⟩,
          ⟨(some 20), none, (.mov (.t 7))⟩,
          ⟨(some 21), none, (.ixA 1 (.t 19) (.t 20))⟩,
          ⟨(some 22), none, (.ld 1 false (.t 21))⟩,
          ⟨(some 24), none, (.ld 2 true (.t 2))⟩,
          ⟨(some 23), none, (.callF 102 [(.t 22)])⟩,
          ⟨none, none, (.chk 2 true (.t 2) 24)⟩,
          ⟨(some 25), none, (.callF 57 [(.t 24)])⟩,
          ⟨(some 26), none, (.bin .leq (.t 23) (.t 25))⟩])
        (.cnd (.t 26)
          (.ops [⟨(some 27), none, (.mov (.t 5))⟩,
            ⟨(some 28), none, (.mov (.t 6))⟩,
            ⟨(some 29), none, (.mov (.t 7))⟩,
            ⟨(some 30), none, (.ixA 1 (.t 28) (.t 29))⟩,
            ⟨(some 31), none, (.ld 1 false (.t 30))⟩,
            ⟨(some 32), none, (.bsl 1 [[.nsl]] [(0, (.t 31))])⟩,
            ⟨(some 33), none, (.app 1 24 (.t 27) (.t 32) 5)⟩,
            ⟨(some 5), none, (.mov (.t 33))⟩])
          .skip)))
      (.ops [⟨(some 17), none, (.mov (.t 7))⟩,
        ⟨(some 18), none, (.bin .add (.t 17) (.k (.int .i64 1)))⟩,
        ⟨(some 7), none, (.mov (.t 18))⟩]))))))
  (.seq (.ops [⟨(some 34), none, (.mov (.t 5))⟩,
    ⟨(some 4), none, (.mov (.t 34))⟩])
  .ret))))))⟩
def hint51 (P : Program) : Hint := { site := [(33, 5)], nils := [(5, 1)], frz := [], mve := [], wr := [] }
theorem blocks_s (p : List Int) (hl : p.length < 1000) (hp : ∀ x ∈ p, 0 ≤ x ∧ x < 1000) : Fn0 Try.prog 102 [.slc 1 (iR p) .non] (fun v => v = .int .i64 (usedF p)) := by
  refine RawC.walk (H := hint102 Try.prog) ir102 Try.func102 rfl rfl rfl ?_
  unfold ir102
  repeat' (first
    | with_reducible (first | refine Rd.p ?_ | refine w_alt ?_ ?_ | refine zE ?_ | refine zE0 ?_)
    | with_reducible (first | refine zI fun y hy => ?_ | refine zL ?_ | refine zS ?_ | refine zA fun _ => ?_ | refine zV ?_ | refine zC ?_ | refine zG ?_ | refine zU ?_ | refine zG0 ?_ | refine zU0 ?_ | refine zF ?_)
    | with_reducible (first | refine zX ?_ | refine zD fun _ => ?_ | refine zD0 ?_ | refine zN ?_ | refine zF0 ?_ | refine zX0 ?_ | refine z1 ?_ | refine z2 ?_ | refine z3 ?_ | refine z4 ?_ | refine z5 ?_ | refine z6 ?_ | refine z7 ?_ | refine z8 ?_ | refine y1 ?_ | refine y2 ?_ | refine y3 ?_ | refine y4 ?_ | refine y5 ?_ | refine y6 ?_ | refine y7 ?_ | refine y8 ?_ | refine Rt.p (fun _ => ?_) fun _ => ?_)
    | ((with_reducible apply w_ixM); (focus exact rfl); (focus exact rfl); case' hk => intro y hy) | ((with_reducible (first | apply w_val | apply q_ends)); (focus exact rfl)))
  refine w_loopK [0] [] (fun x : List Int × List Int => p = x.1 ++ x.2) (fun x => x.2.length) (fun x => [(4, .int .i64 x.1.length), (3, .int .i64 (usedF x.1))]) (fun _ => []) ([], p) rfl ⟨rfl, rfl, trivial⟩ trivial ?_
  rintro ⟨pre, post⟩ hpp e σ
  dsimp only at hpp ⊢
  have hlen := congrArg List.length hpp
  rw [List.length_append] at hlen
  have hub := usedF_bd (b := 1000) pre (fun x hx => hp x (by rw [hpp]; simp [hx])) (by omega)
  cases post with
  | nil =>
    simp only [List.length_nil] at hlen
    rw [List.append_nil] at hpp
    repeat' (first
      | with_reducible (first | refine Rd.p ?_ | refine w_alt ?_ ?_ | refine zE ?_ | refine zE0 ?_)
      | with_reducible (first | refine zI fun y hy => ?_ | refine zL ?_ | refine zS ?_ | refine zA fun _ => ?_ | refine zV ?_ | refine zC ?_ | refine zG ?_ | refine zU ?_ | refine zG0 ?_ | refine zU0 ?_ | refine zF ?_)
      | with_reducible (first | refine zX ?_ | refine zD fun _ => ?_ | refine zD0 ?_ | refine zN ?_ | refine zF0 ?_ | refine zX0 ?_ | refine z1 ?_ | refine z2 ?_ | refine z3 ?_ | refine z4 ?_ | refine z5 ?_ | refine z6 ?_ | refine z7 ?_ | refine z8 ?_ | refine y1 ?_ | refine y2 ?_ | refine y3 ?_ | refine y4 ?_ | refine y5 ?_ | refine y6 ?_ | refine y7 ?_ | refine y8 ?_ | refine Rt.p (fun _ => ?_) fun _ => ?_)
      | ((with_reducible apply w_ixM); (focus exact rfl); (focus exact rfl); case' hk => intro y hy) | ((with_reducible (first | apply w_val | apply q_ends)); (focus exact rfl)))
    rw [hpp]; rfl
  | cons y post =>
    simp only [List.length_cons] at hlen
    have hy := hp y (by rw [hpp]; simp)
    repeat' (first
      | with_reducible (first | refine Rd.p ?_ | refine w_alt ?_ ?_ | refine zE ?_ | refine zE0 ?_)
      | (refine w_ixP hpp rfl rfl ?_)
      | with_reducible (first | refine zI fun y hy => ?_ | refine zL ?_ | refine zS ?_ | refine zA fun _ => ?_ | refine zV ?_ | refine zC ?_ | refine zG ?_ | refine zU ?_ | refine zG0 ?_ | refine zU0 ?_ | refine zF ?_)
      | with_reducible (first | refine zX ?_ | refine zD fun _ => ?_ | refine zD0 ?_ | refine zN ?_ | refine zF0 ?_ | refine zX0 ?_ | refine z1 ?_ | refine z2 ?_ | refine z3 ?_ | refine z4 ?_ | refine z5 ?_ | refine z6 ?_ | refine z7 ?_ | refine z8 ?_ | refine y1 ?_ | refine y2 ?_ | refine y3 ?_ | refine y4 ?_ | refine y5 ?_ | refine y6 ?_ | refine y7 ?_ | refine y8 ?_ | refine Rt.p (fun _ => ?_) fun _ => ?_)
      | ((with_reducible apply w_ixM); (focus exact rfl); (focus exact rfl); case' hk => intro y hy) | ((with_reducible (first | apply w_val | apply q_ends)); (focus exact rfl)))
    refine q_loop (pre ++ [y], post) (by show p = _; rw [hpp]; simp) (by simp) (slots_cons (by show AV.int .i64 _ = AV.int .i64 _; refine int_eq ?_; simp) (slots_cons (by show AV.int .i64 _ = AV.int .i64 _; rw [usedF_snoc]) slots_nil)) trivial (by repeat' (first | exact kept_nil | apply kept_cons | rfl)) (by repeat' (first | exact kept_nil | apply kept_cons | rfl))
theorem maxR_at : ∀ {a r r1 r2 : List Int} {y : Int}, maxR a r → r = r1 ++ y :: r2 → ¬ y < usedF (a ++ r1)
  | a, _, [], r2, y, h, rfl => by rw [List.append_nil]; exact h.1
  | a, _, z :: r1, r2, y, h, rfl => by
    have := maxR_at h.2 (r1 := r1) (r2 := r2) (y := y) rfl
    rw [List.append_assoc] at this
    exact this
theorem drop_take0 (x : List Int) (i : Nat) : (x.drop (0 : Int).toNat).take ((i : Int) - 0).toNat = x.take i := by simp
theorem after_next (a r : List Int) (v : Int) (hv : v < usedF a) (hm : maxR (a ++ [v]) r) (hl : (a ++ v :: r).length < 1000) (hp : ∀ x ∈ a ++ v :: r, 0 ≤ x ∧ x < 1000) :
    Fn0 Try.prog 126 [.slc 1 (iR (a ++ v :: r)) .non] (fun w => w = .tup [.slc 1 (iR (a ++ (v + 1) :: zr r.length)) .non, .bool true]) := by
  obtain ⟨x, hx⟩ : ∃ x, x = a ++ v :: r := ⟨_, rfl⟩
  have hxl : x.length = a.length + 1 + r.length := by rw [hx]; simp; omega
  have ha0 : a ≠ [] := fun h => by
    have := hp v (by simp)
    rw [h] at hv
    have : usedF [] = 0 := rfl
    omega
  have hal : 0 < a.length := List.length_pos_iff.2 ha0
  rw [← hx] at hl hp ⊢
  refine RawC.walk (H := hint126 Try.prog) ir126 Try.func126 rfl rfl rfl ?_
  unfold ir126
  repeat' (first
    | with_reducible (first | refine Rd.p ?_ | refine w_alt ?_ ?_ | refine zE ?_ | refine zE0 ?_)
    | with_reducible (first | refine zI fun y hy => ?_ | refine zL ?_ | refine zS ?_ | refine zA fun _ => ?_ | refine zV ?_ | refine zC ?_ | refine zG ?_ | refine zU ?_ | refine zG0 ?_ | refine zU0 ?_ | refine zF ?_)
    | with_reducible (first | refine zX ?_ | refine zD fun _ => ?_ | refine zD0 ?_ | refine zN ?_ | refine zF0 ?_ | refine zX0 ?_ | refine z1 ?_ | refine z2 ?_ | refine z3 ?_ | refine z4 ?_ | refine z5 ?_ | refine z6 ?_ | refine z7 ?_ | refine z8 ?_ | refine y1 ?_ | refine y2 ?_ | refine y3 ?_ | refine y4 ?_ | refine y5 ?_ | refine y6 ?_ | refine y7 ?_ | refine y8 ?_ | refine Rt.p (fun _ => ?_) fun _ => ?_)
    | ((with_reducible apply w_ixM); (focus exact rfl); (focus exact rfl); case' hk => intro y hy) | ((with_reducible (first | apply w_val | apply q_ends)); (focus exact rfl)))
  refine w_loopK [0] [] (fun i : Nat => a.length ≤ i ∧ i < x.length) (fun i => i) (fun i => [(4, .int .i64 i)]) (fun _ => []) (x.length - 1) ⟨by omega, by omega⟩ ⟨by show AV.int .i64 _ = AV.int .i64 _; refine int_eq ?_; omega, trivial⟩ trivial ?_
  rintro i ⟨hi1, hi2⟩ e σ
  dsimp only at hi1 hi2 ⊢
  have hB : Fn0 Try.prog 102 [.slc 1 (iR ((x.drop (0 : Int).toNat).take ((i : Int) - 0).toNat)) .non] (fun v => v = .int .i64 (usedF (x.take i))) := by
    rw [drop_take0]
    exact blocks_s _ (by rw [List.length_take]; omega) fun y hy => hp y (List.mem_of_mem_take hy)
  by_cases hia : i = a.length
  · subst hia
    have htk : x.take a.length = a := by rw [hx]; simp
    have hgv : x[a.length]? = some v := by rw [hx]; simp
    have hdt := drop_take0 x a.length
    rw [htk] at hB hdt
    have hvb := hp v (by rw [hx]; simp)
    repeat' (first
      | with_reducible (first | refine Rd.p ?_ | refine w_alt ?_ ?_ | refine zE ?_ | refine zE0 ?_)
      | (refine w_ixE hgv rfl rfl ?_)
      | with_reducible (first | refine zI fun y hy => ?_ | refine zL ?_ | refine zS ?_ | refine zA fun _ => ?_ | refine zV ?_ | refine zC ?_ | refine zG ?_ | refine zU ?_ | refine zG0 ?_ | refine zU0 ?_ | refine zF ?_)
      | ((with_reducible refine acall_id ?_); refine ACall.val hB rfl rfl ?_)
      | with_reducible (first | refine zX ?_ | refine zD fun _ => ?_ | refine zD0 ?_ | refine zN ?_ | refine zF0 ?_ | refine zX0 ?_ | refine z1 ?_ | refine z2 ?_ | refine z3 ?_ | refine z4 ?_ | refine z5 ?_ | refine z6 ?_ | refine z7 ?_ | refine z8 ?_ | refine y1 ?_ | refine y2 ?_ | refine y3 ?_ | refine y4 ?_ | refine y5 ?_ | refine y6 ?_ | refine y7 ?_ | refine y8 ?_ | refine Rt.p (fun _ => ?_) fun _ => ?_)
      | ((with_reducible apply w_ixM); (focus exact rfl); (focus exact rfl); case' hk => intro y hy) | ((with_reducible (first | apply w_val | apply q_ends)); (focus exact rfl)))
    rename_i g5
    refine w_loopK [0] [] (fun y : Nat × Nat => y.1 ≤ r.length) (fun y => r.length - y.1) (fun y => [(5, .slc 1 (iR (a ++ (v + 1) :: zr y.1)) (.own 5 y.2))]) (fun y => [(5, (y.2, .row []))]) (0, g5) (Nat.zero_le _) ⟨by show _ = AV.slc 1 (iR _) _; rw [hdt]; rfl, trivial⟩ (by exact ⟨rfl, trivial⟩) ?_
    rintro ⟨k, g5⟩ hk e σ
    dsimp only at hk ⊢
    have hol : (a ++ (v + 1) :: zr k).length = a.length + 1 + k := by simp; omega
    have hz : a ++ (v + 1) :: zr (k + 1) = (a ++ (v + 1) :: zr k) ++ [0] := by rw [zr, List.replicate_succ']; simp
    by_cases hkr : k = r.length
    · subst hkr
      repeat' (first
        | with_reducible (first | refine Rd.p ?_ | refine w_alt ?_ ?_ | refine zE ?_ | refine zE0 ?_)
        | with_reducible (first | refine zI fun y hy => ?_ | refine zL ?_ | refine zS ?_ | refine zA fun _ => ?_ | refine zV ?_ | refine zC ?_ | refine zG ?_ | refine zU ?_ | refine zG0 ?_ | refine zU0 ?_ | refine zF ?_)
        | with_reducible (first | refine zX ?_ | refine zD fun _ => ?_ | refine zD0 ?_ | refine zN ?_ | refine zF0 ?_ | refine zX0 ?_ | refine z1 ?_ | refine z2 ?_ | refine z3 ?_ | refine z4 ?_ | refine z5 ?_ | refine z6 ?_ | refine z7 ?_ | refine z8 ?_ | refine y1 ?_ | refine y2 ?_ | refine y3 ?_ | refine y4 ?_ | refine y5 ?_ | refine y6 ?_ | refine y7 ?_ | refine y8 ?_ | refine Rt.p (fun _ => ?_) fun _ => ?_)
        | ((with_reducible apply w_ixM); (focus exact rfl); (focus exact rfl); case' hk => intro y hy) | ((with_reducible (first | apply w_val | apply q_ends)); (focus exact rfl)))
      all_goals first
        | rfl
        | (exfalso; omega)
    · repeat' (first
        | with_reducible (first | refine Rd.p ?_ | refine w_alt ?_ ?_ | refine zE ?_ | refine zE0 ?_)
        | with_reducible (first | refine zI fun y hy => ?_ | refine zL ?_ | refine zS ?_ | refine zA fun _ => ?_ | refine zV ?_ | refine zC ?_ | refine zG ?_ | refine zU ?_ | refine zG0 ?_ | refine zU0 ?_ | refine zF ?_)
        | with_reducible (first | refine zX ?_ | refine zD fun _ => ?_ | refine zD0 ?_ | refine zN ?_ | refine zF0 ?_ | refine zX0 ?_ | refine z1 ?_ | refine z2 ?_ | refine z3 ?_ | refine z4 ?_ | refine z5 ?_ | refine z6 ?_ | refine z7 ?_ | refine z8 ?_ | refine y1 ?_ | refine y2 ?_ | refine y3 ?_ | refine y4 ?_ | refine y5 ?_ | refine y6 ?_ | refine y7 ?_ | refine y8 ?_ | refine Rt.p (fun _ => ?_) fun _ => ?_)
        | ((with_reducible apply w_ixM); (focus exact rfl); (focus exact rfl); case' hk => intro y hy) | ((with_reducible (first | apply w_val | apply q_ends)); (focus exact rfl)))
      all_goals first
        | (exfalso; omega)
        | (refine q_loop (k + 1, _) (by show k + 1 ≤ r.length; omega) (by show r.length - (k + 1) < r.length - k; omega) (slots_cons (by show _ = AV.slc 1 (iR (a ++ (v + 1) :: zr (k + 1))) _; rw [hz]; rfl) slots_nil) (by exact ⟨rfl, trivial⟩) (by repeat' (first | exact kept_nil | apply kept_cons | rfl)) (by repeat' (first | exact kept_nil | apply kept_cons | rfl)))
  · obtain ⟨y, hy⟩ : ∃ y, x[i]? = some y := ⟨_, List.getElem?_eq_getElem hi2⟩
    have hny : ¬ y < usedF (x.take i) := by
      have h1 : r = r.take (i - a.length - 1) ++ y :: r.drop (i - a.length) := by
        have h2 : r[i - a.length - 1]? = some y := by
          rw [hx, List.getElem?_append_right (by omega)] at hy
          rw [show i - a.length = (i - a.length - 1) + 1 by omega, List.getElem?_cons_succ] at hy
          exact hy
        obtain ⟨h3, h4⟩ := List.getElem?_eq_some_iff.1 h2
        have h5 : i - a.length = (i - a.length - 1) + 1 := by omega
        rw [h5, ← h4, ← List.drop_eq_getElem_cons h3]
        simp
      have h6 := maxR_at hm h1
      have h7 : x.take i = (a ++ [v]) ++ r.take (i - a.length - 1) := by
        rw [hx, List.take_append, List.take_of_length_le (by omega), show i - a.length = (i - a.length - 1) + 1 by omega, List.take_succ_cons]
        simp
      rw [h7]; exact h6
    have hyb := hp y (List.mem_of_getElem? hy)
    repeat' (first
      | with_reducible (first | refine Rd.p ?_ | refine w_alt ?_ ?_ | refine zE ?_ | refine zE0 ?_)
      | (refine w_ixE hy rfl rfl ?_)
      | with_reducible (first | refine zI fun y hy => ?_ | refine zL ?_ | refine zS ?_ | refine zA fun _ => ?_ | refine zV ?_ | refine zC ?_ | refine zG ?_ | refine zU ?_ | refine zG0 ?_ | refine zU0 ?_ | refine zF ?_)
      | ((with_reducible refine acall_id ?_); refine ACall.val hB rfl rfl ?_)
      | with_reducible (first | refine zX ?_ | refine zD fun _ => ?_ | refine zD0 ?_ | refine zN ?_ | refine zF0 ?_ | refine zX0 ?_ | refine z1 ?_ | refine z2 ?_ | refine z3 ?_ | refine z4 ?_ | refine z5 ?_ | refine z6 ?_ | refine z7 ?_ | refine z8 ?_ | refine y1 ?_ | refine y2 ?_ | refine y3 ?_ | refine y4 ?_ | refine y5 ?_ | refine y6 ?_ | refine y7 ?_ | refine y8 ?_ | refine Rt.p (fun _ => ?_) fun _ => ?_)
      | ((with_reducible apply w_ixM); (focus exact rfl); (focus exact rfl); case' hk => intro y hy) | ((with_reducible (first | apply w_val | apply q_ends)); (focus exact rfl)))
    all_goals first
      | (exfalso; omega)
      | (refine q_loop (i - 1) ⟨by first | omega | (dsimp only; omega), by first | omega | (dsimp only; omega)⟩ (by first | omega | (dsimp only; omega)) (slots_cons (by show AV.int .i64 _ = AV.int .i64 _; refine int_eq ?_; omega) slots_nil) trivial (by repeat' (first | exact kept_nil | apply kept_cons | rfl)) (by repeat' (first | exact kept_nil | apply kept_cons | rfl)))
theorem after_last (x : List Int) (hm : maxR [] x) (hl : x.length < 1000) (hp : ∀ y ∈ x, 0 ≤ y ∧ y < 1000) :
    Fn0 Try.prog 126 [.slc 1 (iR x) .non] (fun w => w = .tup [.nsl, .bool false]) := by
  refine RawC.walk (H := hint126 Try.prog) ir126 Try.func126 rfl rfl rfl ?_
  unfold ir126
  repeat' (first
    | with_reducible (first | refine Rd.p ?_ | refine w_alt ?_ ?_ | refine zE ?_ | refine zE0 ?_)
    | with_reducible (first | refine zI fun y hy => ?_ | refine zL ?_ | refine zS ?_ | refine zA fun _ => ?_ | refine zV ?_ | refine zC ?_ | refine zG ?_ | refine zU ?_ | refine zG0 ?_ | refine zU0 ?_ | refine zF ?_)
    | with_reducible (first | refine zX ?_ | refine zD fun _ => ?_ | refine zD0 ?_ | refine zN ?_ | refine zF0 ?_ | refine zX0 ?_ | refine z1 ?_ | refine z2 ?_ | refine z3 ?_ | refine z4 ?_ | refine z5 ?_ | refine z6 ?_ | refine z7 ?_ | refine z8 ?_ | refine y1 ?_ | refine y2 ?_ | refine y3 ?_ | refine y4 ?_ | refine y5 ?_ | refine y6 ?_ | refine y7 ?_ | refine y8 ?_ | refine Rt.p (fun _ => ?_) fun _ => ?_)
    | ((with_reducible apply w_ixM); (focus exact rfl); (focus exact rfl); case' hk => intro y hy) | ((with_reducible (first | apply w_val | apply q_ends)); (focus exact rfl)))
  refine w_loopK [0] [] (fun i : Int => -1 ≤ i ∧ i < x.length) (fun i => (i + 1).toNat) (fun i => [(4, .int .i64 i)]) (fun _ => []) (x.length - 1) ⟨by omega, by omega⟩ ⟨rfl, trivial⟩ trivial ?_
  rintro i ⟨hi1, hi2⟩ e σ
  dsimp only at hi1 hi2 ⊢
  by_cases hi0 : 0 < i
  case neg =>
    repeat' (first
      | with_reducible (first | refine Rd.p ?_ | refine w_alt ?_ ?_ | refine zE ?_ | refine zE0 ?_)
      | with_reducible (first | refine zI fun y hy => ?_ | refine zL ?_ | refine zS ?_ | refine zA fun _ => ?_ | refine zV ?_ | refine zC ?_ | refine zG ?_ | refine zU ?_ | refine zG0 ?_ | refine zU0 ?_ | refine zF ?_)
      | with_reducible (first | refine zX ?_ | refine zD fun _ => ?_ | refine zD0 ?_ | refine zN ?_ | refine zF0 ?_ | refine zX0 ?_ | refine z1 ?_ | refine z2 ?_ | refine z3 ?_ | refine z4 ?_ | refine z5 ?_ | refine z6 ?_ | refine z7 ?_ | refine z8 ?_ | refine y1 ?_ | refine y2 ?_ | refine y3 ?_ | refine y4 ?_ | refine y5 ?_ | refine y6 ?_ | refine y7 ?_ | refine y8 ?_ | refine Rt.p (fun _ => ?_) fun _ => ?_)
      | ((with_reducible apply w_ixM); (focus exact rfl); (focus exact rfl); case' hk => intro y hy) | ((with_reducible (first | apply w_val | apply q_ends)); (focus exact rfl)))
    rfl
  obtain ⟨j, rfl⟩ : ∃ j : Nat, i = j := ⟨i.toNat, by omega⟩
  have hj : j < x.length := by omega
  have hB : Fn0 Try.prog 102 [.slc 1 (iR ((x.drop (0 : Int).toNat).take ((j : Int) - 0).toNat)) .non] (fun v => v = .int .i64 (usedF (x.take j))) := by
    rw [drop_take0]
    exact blocks_s _ (by rw [List.length_take]; omega) fun y hy => hp y (List.mem_of_mem_take hy)
  obtain ⟨y, hy⟩ : ∃ y, x[j]? = some y := ⟨_, List.getElem?_eq_getElem hj⟩
  have hny : ¬ y < usedF (x.take j) := by
    obtain ⟨h3, h4⟩ := List.getElem?_eq_some_iff.1 hy
    have h1 : x = x.take j ++ y :: x.drop (j + 1) := by
      rw [← h4, ← List.drop_eq_getElem_cons h3]; simp
    exact maxR_at hm h1
  have hyb := hp y (List.mem_of_getElem? hy)
  repeat' (first
    | with_reducible (first | refine Rd.p ?_ | refine w_alt ?_ ?_ | refine zE ?_ | refine zE0 ?_)
    | (refine w_ixE hy rfl rfl ?_)
    | with_reducible (first | refine zI fun y hy => ?_ | refine zL ?_ | refine zS ?_ | refine zA fun _ => ?_ | refine zV ?_ | refine zC ?_ | refine zG ?_ | refine zU ?_ | refine zG0 ?_ | refine zU0 ?_ | refine zF ?_)
    | ((with_reducible refine acall_id ?_); refine ACall.val hB rfl rfl ?_)
    | with_reducible (first | refine zX ?_ | refine zD fun _ => ?_ | refine zD0 ?_ | refine zN ?_ | refine zF0 ?_ | refine zX0 ?_ | refine z1 ?_ | refine z2 ?_ | refine z3 ?_ | refine z4 ?_ | refine z5 ?_ | refine z6 ?_ | refine z7 ?_ | refine z8 ?_ | refine y1 ?_ | refine y2 ?_ | refine y3 ?_ | refine y4 ?_ | refine y5 ?_ | refine y6 ?_ | refine y7 ?_ | refine y8 ?_ | refine Rt.p (fun _ => ?_) fun _ => ?_)
    | ((with_reducible apply w_ixM); (focus exact rfl); (focus exact rfl); case' hk => intro y hy) | ((with_reducible (first | apply w_val | apply q_ends)); (focus exact rfl)))
  all_goals first
    | (exfalso; omega)
    | (refine q_loop ((j : Int) - 1) ⟨by first | omega | (dsimp only; omega), by first | omega | (dsimp only; omega)⟩ (by first | omega | (dsimp only; omega)) (slots_cons rfl slots_nil) trivial (by repeat' (first | exact kept_nil | apply kept_cons | rfl)) (by repeat' (first | exact kept_nil | apply kept_cons | rfl)))
theorem rgs_used : ∀ {k : Nat} {p q : List Int}, q ∈ rgsK k p → usedF q ≤ usedF p + k
  | 0, p, q, h => by
    rw [rgsK, List.mem_singleton] at h
    subst h; simp
  | k + 1, p, q, h => by
    rw [rgsK, List.mem_flatMap] at h
    obtain ⟨n, hn, h⟩ := h
    have := rgs_used h
    rw [usedF_snoc] at this
    have := List.mem_range.1 hn
    omega
theorem rgs_bd {k : Nat} {q : List Int} (h : q ∈ rgsK k []) : q.length = k ∧ ∀ x ∈ q, 0 ≤ x ∧ x < k := by
  have h1 := rgsK_top h
  have h2 := rgs_used h
  have h3 : usedF [] = 0 := rfl
  exact ⟨h1.1, fun x hx => by have := h1.2 x hx; omega⟩
def hdV : List (List Int) → AV
  | [] => .nsl
  | x :: _ => .slc 1 (iR x) .non
theorem rgs_cnt : ∀ (k : Nat) (p : List Int) (u : Nat), usedF p ≤ u → u + k ≤ 9 → (rgsK k p).length ≤ 10 ^ k
  | 0, p, u, _, _ => by rw [rgsK]; simp
  | k + 1, p, u, h, hk => by
    rw [rgsK_rng]
    have key : ∀ (m n : Nat), n + m ≤ (usedF p + 1).toNat → (rngL p k n m).length ≤ m * 10 ^ k := by
      intro m
      induction m with
      | zero => intro n _; simp [rngL]
      | succ m ih =>
        intro n hn
        rw [rngL_succ, List.length_append]
        have h1 := rgs_cnt k (p ++ [(n : Int)]) (u + 1) (by rw [usedF_snoc]; omega) (by omega)
        have h2 := ih (n + 1) (by omega)
        rw [Nat.succ_mul]; omega
    have h1 := key (usedF p + 1).toNat 0 (by omega)
    have h2 : (usedF p + 1).toNat ≤ 10 := by omega
    exact Nat.le_trans h1 (by rw [Nat.pow_succ, Nat.mul_comm]; exact Nat.mul_le_mul_left _ h2)
theorem all_s (n : Nat) (hn : 1 ≤ n ∧ n ≤ 9) : Fn0 Try.prog 101 [.int .i64 n] (fun v => v = .slc 1 (llR (rgsK n [])) .non) := by
  have hcnt := rgs_cnt n [] 0 (by show (0 : Int) ≤ _; omega) (by omega)
  have hpw : 10 ^ n ≤ 10 ^ 9 := Nat.pow_le_pow_right (by omega) hn.2
  obtain ⟨B0, hB0⟩ := rgs_head n
  refine RawC.walk (H := hint101 Try.prog) ir101 Try.func101 rfl rfl rfl ?_
  unfold ir101
  repeat' (first
    | with_reducible (first | refine Rd.p ?_ | refine w_alt ?_ ?_ | refine zE ?_ | refine zE0 ?_)
    | (refine w_mksI (n := n) rfl (by omega) ?_; intro _)
    | with_reducible (first | refine zI fun y hy => ?_ | refine zL ?_ | refine zS ?_ | refine zA fun _ => ?_ | refine zV ?_ | refine zC ?_ | refine zG ?_ | refine zU ?_ | refine zG0 ?_ | refine zU0 ?_ | refine zF ?_)
    | with_reducible (first | refine zX ?_ | refine zD fun _ => ?_ | refine zD0 ?_ | refine zN ?_ | refine zF0 ?_ | refine zX0 ?_ | refine z1 ?_ | refine z2 ?_ | refine z3 ?_ | refine z4 ?_ | refine z5 ?_ | refine z6 ?_ | refine z7 ?_ | refine z8 ?_ | refine y1 ?_ | refine y2 ?_ | refine y3 ?_ | refine y4 ?_ | refine y5 ?_ | refine y6 ?_ | refine y7 ?_ | refine y8 ?_ | refine Rt.p (fun _ => ?_) fun _ => ?_)
    | ((with_reducible apply w_ixM); (focus exact rfl); (focus exact rfl); case' hk => intro y hy) | ((with_reducible (first | apply w_val | apply q_ends)); (focus exact rfl)))
  rename_i g7 g4
  refine w_frzIS [(3, .slc 1 (iR (zr n)) .non), (4, .slc 1 (llR []) (.own 4 g4))] [(4, (g4, .row []))] (xs := zr n) rfl (by simp [upd, newS]) (by simp) ?_ ?_ ?_
  · exact ⟨frzA_msl (by simp), rfl, trivial⟩
  · exact ⟨frzS_at rfl (by decide) rfl, trivial⟩
  intro e σ
  repeat' (first
    | with_reducible (first | refine Rd.p ?_ | refine w_alt ?_ ?_ | refine zE ?_ | refine zE0 ?_)
    | with_reducible (first | refine zI fun y hy => ?_ | refine zL ?_ | refine zS ?_ | refine zA fun _ => ?_ | refine zV ?_ | refine zC ?_ | refine zG ?_ | refine zU ?_ | refine zG0 ?_ | refine zU0 ?_ | refine zF ?_)
    | with_reducible (first | refine zX ?_ | refine zD fun _ => ?_ | refine zD0 ?_ | refine zN ?_ | refine zF0 ?_ | refine zX0 ?_ | refine z1 ?_ | refine z2 ?_ | refine z3 ?_ | refine z4 ?_ | refine z5 ?_ | refine z6 ?_ | refine z7 ?_ | refine z8 ?_ | refine y1 ?_ | refine y2 ?_ | refine y3 ?_ | refine y4 ?_ | refine y5 ?_ | refine y6 ?_ | refine y7 ?_ | refine y8 ?_ | refine Rt.p (fun _ => ?_) fun _ => ?_)
    | ((with_reducible apply w_ixM); (focus exact rfl); (focus exact rfl); case' hk => intro y hy) | ((with_reducible (first | apply w_val | apply q_ends)); (focus exact rfl)))
  refine w_loopK [] [] (fun x : List (List Int) × List (List Int) × Nat => rgsK n [] = x.1 ++ x.2.1) (fun x => x.2.1.length) (fun x => [(3, hdV x.2.1), (4, .slc 1 (llR x.1) (.own 4 x.2.2)), (5, .bool (decide (x.2.1 ≠ [])))]) (fun x => [(4, (x.2.2, .row []))]) ([], zr n :: B0, g4) hB0 ⟨rfl, rfl, rfl, trivial⟩ (by exact ⟨rfl, trivial⟩) ?_
  rintro ⟨A, P, g4⟩ hAP e σ
  dsimp only at hAP ⊢
  have hlen := congrArg List.length hAP
  rw [List.length_append] at hlen
  cases P with
  | nil =>
    rw [List.append_nil] at hAP
    repeat' (first
      | with_reducible (first | refine Rd.p ?_ | refine w_alt ?_ ?_ | refine zE ?_ | refine zE0 ?_)
      | with_reducible (first | refine zI fun y hy => ?_ | refine zL ?_ | refine zS ?_ | refine zA fun _ => ?_ | refine zV ?_ | refine zC ?_ | refine zG ?_ | refine zU ?_ | refine zG0 ?_ | refine zU0 ?_ | refine zF ?_)
      | with_reducible (first | refine zX ?_ | refine zD fun _ => ?_ | refine zD0 ?_ | refine zN ?_ | refine zF0 ?_ | refine zX0 ?_ | refine z1 ?_ | refine z2 ?_ | refine z3 ?_ | refine z4 ?_ | refine z5 ?_ | refine z6 ?_ | refine z7 ?_ | refine z8 ?_ | refine y1 ?_ | refine y2 ?_ | refine y3 ?_ | refine y4 ?_ | refine y5 ?_ | refine y6 ?_ | refine y7 ?_ | refine y8 ?_ | refine Rt.p (fun _ => ?_) fun _ => ?_)
      | ((with_reducible apply w_ixM); (focus exact rfl); (focus exact rfl); case' hk => intro y hy) | ((with_reducible (first | apply w_val | apply q_ends)); (focus exact rfl)))
    all_goals first
      | (rw [hAP]; rfl)
      | (exfalso; simp_all; done)
  | cons x B =>
    have hx : x ∈ rgsK n [] := by rw [hAP]; simp
    have hxb := rgs_bd hx
    have hxb2 : ∀ y ∈ x, 0 ≤ y ∧ y < 1000 := fun y hy => by have := hxb.2 y hy; omega
    simp only [List.length_cons] at hlen
    rcases rgs_step hAP with ⟨rfl, hm⟩ | ⟨y, C, rfl, ⟨a, v, r, rfl, hv, hm, rfl⟩⟩
    · have hA := after_last x hm (by omega) hxb2
      repeat' (first
        | with_reducible (first | refine Rd.p ?_ | refine w_alt ?_ ?_ | refine zE ?_ | refine zE0 ?_)
        | with_reducible (first | refine zI fun y hy => ?_ | refine zL ?_ | refine zS ?_ | refine zA fun _ => ?_ | refine zV ?_ | refine zC ?_ | refine zG ?_ | refine zU ?_ | refine zG0 ?_ | refine zU0 ?_ | refine zF ?_)
        | (refine w_frzSl rfl ?_)
        | ((with_reducible refine acall_id ?_); refine ACall.val hA rfl rfl ?_)
        | with_reducible (first | refine zX ?_ | refine zD fun _ => ?_ | refine zD0 ?_ | refine zN ?_ | refine zF0 ?_ | refine zX0 ?_ | refine z1 ?_ | refine z2 ?_ | refine z3 ?_ | refine z4 ?_ | refine z5 ?_ | refine z6 ?_ | refine z7 ?_ | refine z8 ?_ | refine y1 ?_ | refine y2 ?_ | refine y3 ?_ | refine y4 ?_ | refine y5 ?_ | refine y6 ?_ | refine y7 ?_ | refine y8 ?_ | refine Rt.p (fun _ => ?_) fun _ => ?_)
        | ((with_reducible apply w_ixM); (focus exact rfl); (focus exact rfl); case' hk => intro y hy) | ((with_reducible (first | apply w_val | apply q_ends)); (focus exact rfl)))
      all_goals first
        | (refine q_loop (A ++ [x], [], _) (by show rgsK n [] = _; rw [hAP]; simp) (by simp) (slots_cons rfl (slots_cons (by show _ = AV.slc 1 (llR (A ++ [x])) _; first | rfl | simp | (simp; rfl)) (slots_cons rfl slots_nil))) (by exact ⟨rfl, trivial⟩) (by repeat' (first | exact kept_nil | apply kept_cons | rfl)) (by repeat' (first | exact kept_nil | apply kept_cons | rfl)))
        | (exfalso; simp_all; done)
    · have hA := after_next a r v hv hm (by omega) hxb2
      repeat' (first
        | with_reducible (first | refine Rd.p ?_ | refine w_alt ?_ ?_ | refine zE ?_ | refine zE0 ?_)
        | with_reducible (first | refine zI fun y hy => ?_ | refine zL ?_ | refine zS ?_ | refine zA fun _ => ?_ | refine zV ?_ | refine zC ?_ | refine zG ?_ | refine zU ?_ | refine zG0 ?_ | refine zU0 ?_ | refine zF ?_)
        | (refine w_frzSl rfl ?_)
        | ((with_reducible refine acall_id ?_); refine ACall.val hA rfl rfl ?_)
        | with_reducible (first | refine zX ?_ | refine zD fun _ => ?_ | refine zD0 ?_ | refine zN ?_ | refine zF0 ?_ | refine zX0 ?_ | refine z1 ?_ | refine z2 ?_ | refine z3 ?_ | refine z4 ?_ | refine z5 ?_ | refine z6 ?_ | refine z7 ?_ | refine z8 ?_ | refine y1 ?_ | refine y2 ?_ | refine y3 ?_ | refine y4 ?_ | refine y5 ?_ | refine y6 ?_ | refine y7 ?_ | refine y8 ?_ | refine Rt.p (fun _ => ?_) fun _ => ?_)
        | ((with_reducible apply w_ixM); (focus exact rfl); (focus exact rfl); case' hk => intro y hy) | ((with_reducible (first | apply w_val | apply q_ends)); (focus exact rfl)))
      all_goals first
        | (refine q_loop (A ++ [a ++ v :: r], (a ++ (v + 1) :: zr r.length) :: C, _) (by show rgsK n [] = _; rw [hAP]; simp) (by simp) (slots_cons rfl (slots_cons (by show _ = AV.slc 1 (llR (A ++ [a ++ v :: r])) _; first | rfl | simp | (simp; rfl)) (slots_cons rfl slots_nil))) (by exact ⟨rfl, trivial⟩) (by repeat' (first | exact kept_nil | apply kept_cons | rfl)) (by repeat' (first | exact kept_nil | apply kept_cons | rfl)))
        | (exfalso; simp_all; done)
/-- The plans that are looked at. -/
def plansL (s : Sea) (n : Nat) : List (List Int) := (rgsK n []).filter fun q => decide (usedF q ≤ combF s.ss)
end Go.Abs
