/- A part of the proofs of the laws of this seat: contracts of the functions that they reach, each proved of the program's form in Lean. No condition beyond those that each contract names. -/
import Derived.Test.YtcgcciegekaliaaB9
import Derived.Test.YtcgcciegekaliaaB11
import Derived.Test.YtcgcciegekaliaaB0
import Derived.Test.YtcgcciegekaliaaB16
import Derived.Test.YtcgcciegekaliaaB8
import Derived.Test.YtcgcciegekaliaaB12
import Derived.Test.YtcgcciegekaliaaB2
import Derived.Test.YtcgcciegekaliaaB21
import Derived.Test.YtcgcciegekaliaaB20
import Derived.Test.YtcgcciegekaliaaB10
set_option linter.unusedVariables false
set_option linter.unusedSimpArgs false
set_option maxRecDepth 20000
set_option maxHeartbeats 4000000
/-! ### Orders, on the reference's side: those that are allowed, the best one -/
namespace Go.Abs
open Go.Proofs
/-- aloeswood/aloeswoodref08.broken -/
def ir89 : IFn :=
  ⟨39, [(4, none), (5, none)], (.seq (.ops [⟨(some 2), none, (.box 2 (.t 0))⟩,
    ⟨(some 4), none, (.mov (.k .nsl))⟩,
    ⟨(some 5), none, (.mov (.k (.int .i64 0)))⟩])
  (.seq (.ops [⟨(some 6), none, (.nil 1 6)⟩])
  (.seq (.ops [⟨(some 7), none, (.mov (.k (.int .i64 0)))⟩])
  (.seq (.seq (.ops [⟨(some 8), none, (.mov (.k (.int .i64 0)))⟩])
  (.blk 0 (.loop (.seq (.seq (.ops [⟨(some 9), none, (.mov (.t 8))⟩,
        ⟨(some 10), none, (.flA 1 (.t 2))⟩,
        ⟨(some 11), none, (.ld 1 false (.t 10))⟩,
        ⟨(some 12), none, (.len false (.t 11))⟩,
        ⟨(some 13), none, (.bin .lss (.t 9) (.t 12))⟩])
      (.cnd (.t 13)
        .skip
        (.exit 0)))
      (.seq (.blk 1 (.seq (.ops [⟨(some 16), none, (.ld 2 true (.t 2))⟩,
          ⟨(some 17), none, (.mov (.t 1))⟩,
          ⟨(some 18), none, (.flA 1 (.t 2))⟩,
          ⟨(some 19), none, (.ld 1 false (.t 18))⟩,
          ⟨(some 20), none, (.mov (.t 8))⟩,
          ⟨(some 21), none, (.ixA 4 (.t 19) (.t 20))⟩,
          ⟨(some 22), none, (.ld 4 true (.t 21))⟩,
          ⟨(some 23), none, (.callF 114 [(.t 16), (.t 17), (.t 22)])⟩,
          ⟨(some 24), none, (.not (.t 23))⟩])
        (.cnd (.t 24)
          (.ops [⟨(some 25), none, (.mov (.t 6))⟩,
            ⟨(some 26), none, (.mov (.t 8))⟩,
            ⟨(some 27), none, (.bsl 1 [[(.int .i64 0)]] [(0, (.t 26))])⟩,
            ⟨(some 29), none, (.mov (.t 7))⟩,
            ⟨(some 30), none, (.flA 1 (.t 2))⟩,
            ⟨(some 31), none, (.ld 1 false (.t 30))⟩,
            ⟨(some 32), none, (.mov (.t 8))⟩,
            ⟨(some 33), none, (.ixA 4 (.t 31) (.t 32))⟩,
            ⟨(some 34), none, (.flA 3 (.t 33))⟩,
            ⟨(some 35), none, (.ld 1 false (.t 34))⟩,
            ⟨(some 36), none, (.bin .add (.t 29) (.t 35))⟩,
            ⟨(some 28), none, (.app 1 8 (.t 25) (.t 27) 6)⟩,
            ⟨none, none, (.chk 1 false (.t 30) 31)⟩,
            ⟨none, none, (.chk 1 false (.t 34) 35)⟩,
            ⟨(some 6), none, (.mov (.t 28))⟩,
            ⟨(some 7), none, (.mov (.t 36))⟩])
          .skip)))
      (.ops [⟨(some 14), none, (.mov (.t 8))⟩,
        ⟨(some 15), none, (.bin .add (.t 14) (.k (.int .i64 1)))⟩,
        ⟨(some 8), none, (.mov (.t 15))⟩]))))))
  (.seq (.ops [⟨(some 37), none, (.mov (.t 6))⟩,
    ⟨(some 38), none, (.mov (.t 7))⟩,
    ⟨(some 4), none, (.mov (.t 37))⟩,
    ⟨(some 5), none, (.mov (.t 38))⟩])
  .ret)))))⟩
def hint89 (P : Program) : Hint := { site := [(28, 6)], nils := [(6, 1)], frz := [], mve := [], wr := [] }

/-- aloeswood/aloeswoodref08.allowed -/
def ir116 : IFn :=
  ⟨22, [(4, none)], (.seq (.ops [⟨(some 2), none, (.box 2 (.t 0))⟩,
    ⟨(some 4), none, (.mov (.k (.bool false)))⟩])
  (.seq (.seq (.ops [⟨(some 5), none, (.mov (.k (.int .i64 0)))⟩])
  (.blk 0 (.loop (.seq (.seq (.ops [⟨(some 6), none, (.mov (.t 5))⟩,
        ⟨(some 7), none, (.mov (.t 1))⟩,
        ⟨(some 8), none, (.len false (.t 7))⟩,
        ⟨(some 9), none, (.bin .lss (.t 6) (.t 8))⟩])
      (.cnd (.t 9)
        .skip
        (.exit 0)))
      (.seq (.blk 1 (.seq (.ops [⟨(some 12), none, (.flA 1 (.t 2))⟩,
          ⟨(some 13), none, (.ld 1 false (.t 12))⟩,
          ⟨(some 14), none, (.mov (.t 1))⟩,
          ⟨(some 15), none, (.mov (.t 5))⟩,
          ⟨(some 16), none, (.ixA 1 (.t 14) (.t 15))⟩,
          ⟨(some 17), none, (.ld 1 false (.t 16))⟩,
          ⟨(some 18), none, (.ixA 4 (.t 13) (.t 17))⟩,
          ⟨(some 19), none, (.flA 3 (.t 18))⟩,
          ⟨(some 20), none, (.ld 1 false (.t 19))⟩,
          ⟨(some 21), none, (.bin .eql (.t 20) (.k (.int .i64 0)))⟩])
        (.cnd (.t 21)
          (.seq (.ops [⟨(some 4), none, (.mov (.k (.bool false)))⟩])
          .ret)
          .skip)))
      (.ops [⟨(some 10), none, (.mov (.t 5))⟩,
        ⟨(some 11), none, (.bin .add (.t 10) (.k (.int .i64 1)))⟩,
        ⟨(some 5), none, (.mov (.t 11))⟩]))))))
  (.seq (.ops [⟨(some 4), none, (.mov (.k (.bool true)))⟩])
  .ret)))⟩
def hint116 (P : Program) : Hint := {}

/-- aloeswood/aloeswoodref08.Orders -/
def ir49 : IFn :=
  ⟨33, [(4, none)], (.seq (.ops [⟨(some 4), none, (.mov (.k .nsl))⟩])
  (.seq (.seq (.ops [⟨(some 7), none, (.mov (.t 1))⟩,
    ⟨(some 8), none, (.len false (.t 7))⟩,
    ⟨(some 9), none, (.mov (.t 0))⟩,
    ⟨(some 10), none, (.bin .eql (.t 8) (.t 9))⟩])
  (.cnd (.t 10)
    (.seq (.ops [⟨(some 11), none, (.mov (.t 1))⟩,
      ⟨(some 12), none, (.bsl 1 [[.nsl]] [(0, (.t 11))])⟩,
      ⟨(some 4), none, (.mov (.t 12))⟩])
    .ret)
    .skip))
  (.seq (.ops [⟨(some 5), none, (.nil 1 5)⟩])
  (.seq (.seq (.ops [⟨(some 6), none, (.mov (.k (.int .i64 0)))⟩])
  (.blk 0 (.loop (.seq (.seq (.ops [⟨(some 13), none, (.mov (.t 6))⟩,
        ⟨(some 14), none, (.mov (.t 0))⟩,
        ⟨(some 15), none, (.bin .lss (.t 13) (.t 14))⟩])
      (.cnd (.t 15)
        .skip
        (.exit 0)))
      (.seq (.blk 1 (.seq (.ops [⟨(some 18), none, (.mov (.t 1))⟩,
          ⟨(some 19), none, (.mov (.t 6))⟩,
          ⟨(some 20), none, (.callF 88 [(.t 18), (.t 19)])⟩,
          ⟨(some 21), none, (.bin .lss (.t 20) (.k (.int .i64 0)))⟩])
        (.cnd (.t 21)
          (.ops [⟨(some 22), none, (.mov (.t 5))⟩,
            ⟨(some 23), none, (.mov (.t 0))⟩,
            ⟨(some 24), none, (.bsl 1 [] [])⟩,
            ⟨(some 25), none, (.mov (.t 1))⟩,
            ⟨(some 26), none, (.app 1 8 (.t 24) (.t 25) 26)⟩,
            ⟨(some 27), none, (.mov (.t 6))⟩,
            ⟨(some 28), none, (.bsl 1 [[(.int .i64 0)]] [(0, (.t 27))])⟩,
            ⟨(some 29), none, (.app 1 8 (.t 26) (.t 28) 29)⟩,
            ⟨(some 30), none, (.callF 49 [(.t 23), (.t 29)])⟩,
            ⟨(some 31), none, (.app 1 24 (.t 22) (.t 30) 5)⟩,
            ⟨(some 5), none, (.mov (.t 31))⟩])
          .skip)))
      (.ops [⟨(some 16), none, (.mov (.t 6))⟩,
        ⟨(some 17), none, (.bin .add (.t 16) (.k (.int .i64 1)))⟩,
        ⟨(some 6), none, (.mov (.t 17))⟩]))))))
  (.seq (.ops [⟨(some 32), none, (.mov (.t 5))⟩,
    ⟨(some 4), none, (.mov (.t 32))⟩])
  .ret)))))⟩
def hint49 (P : Program) : Hint := { site := [(31, 5)], nils := [(5, 1)], frz := [], mve := [], wr := [] }

abbrev brP (gs : List Guest) (l : List Int) (r : Rule) : Bool := !keepsB gs (atL l) r
theorem rBroken_c (gs : List Guest) (rs : List Rule) (l : List Int) (hr : ∀ r ∈ rs, rOK r gs.length) (h : isPerm gs.length l) (hg : gs.length < 1000) (hrs : rs.length < 1000) :
    Fn0 Try.prog 89 [pA gs rs, .slc 1 (iR l) .non] (fun v => v = .tup [.slc 1 (iR (plcF (brP gs l) 0 rs)) .non, .int .i64 (prS gs rs l)]) := by
  refine RawC.walk (H := hint89 Try.prog) ir89 Try.func89 rfl rfl rfl ?_
  unfold ir89
  repeat' (first
    | with_reducible (first | refine Rd.p ?_ | refine zE ?_ | refine zE0 ?_)
    | with_reducible (first | refine zI fun y hy => ?_ | refine zL ?_ | refine zS ?_ | refine zA fun _ => ?_ | refine zV ?_ | refine zC ?_ | refine zG ?_ | refine zU ?_ | refine zG0 ?_ | refine zU0 ?_ | refine zF ?_)
    | with_reducible (first | refine zX ?_ | refine zD fun _ => ?_ | refine zD0 ?_ | refine zN ?_ | refine zF0 ?_ | refine zX0 ?_ | refine z1 ?_ | refine z2 ?_ | refine z3 ?_ | refine z4 ?_ | refine z5 ?_ | refine z6 ?_ | refine z7 ?_ | refine z8 ?_ | refine y1 ?_ | refine y2 ?_ | refine y3 ?_ | refine y4 ?_ | refine y5 ?_ | refine y6 ?_ | refine y7 ?_ | refine y8 ?_ | refine Rt.p (fun _ => ?_) fun _ => ?_)
    | ((with_reducible apply w_ixM); (focus exact rfl); (focus exact rfl); case' hk => intro y hy) | ((with_reducible (first | apply w_val | apply q_ends)); (focus exact rfl)))
  rename_i g6
  refine w_loopK [1, 2] [2] (fun x : List Rule × List Rule × List Int × Int × Nat => rs = x.1 ++ x.2.1 ∧ plcF (brP gs l) 0 rs = x.2.2.1 ++ plcF (brP gs l) x.1.length x.2.1 ∧ prS gs rs l = x.2.2.2.1 + wsum (brP gs l) x.2.1 ∧ 0 ≤ x.2.2.2.1 ∧ x.2.2.2.1 ≤ 1000 * x.1.length ∧ x.2.2.1.length ≤ x.1.length) (fun x => x.2.1.length)
    (fun x => [(8, .int .i64 x.1.length), (6, .slc 1 (iR x.2.2.1) (.own 6 x.2.2.2.2)), (7, .int .i64 x.2.2.2.1)]) (fun x => [(6, (x.2.2.2.2, .row []))]) ([], rs, [], 0, g6) ⟨rfl, rfl, by simp [prS], by simp, by simp, by simp⟩ ⟨rfl, rfl, rfl, trivial⟩ ⟨rfl, trivial⟩ ?_
  rintro ⟨pre, post, m, c, g⟩ ⟨hl, hb, hw, hc0, hc1, hm⟩ e σ
  dsimp only at hl hb hw hc0 hc1 hm ⊢
  have hlen := congrArg List.length hl
  cases post with
  | nil =>
    simp only [List.append_nil, List.length_append, List.length_nil] at hlen
    repeat' (first
      | with_reducible (first | refine Rd.p ?_ | refine zE ?_ | refine zE0 ?_)
      | with_reducible (first | refine zI fun y hy => ?_ | refine zL ?_ | refine zS ?_ | refine zA fun _ => ?_ | refine zV ?_ | refine zC ?_ | refine zG ?_ | refine zU ?_ | refine zG0 ?_ | refine zU0 ?_ | refine zF ?_)
      | with_reducible (first | refine zX ?_ | refine zD fun _ => ?_ | refine zD0 ?_ | refine zN ?_ | refine zF0 ?_ | refine zX0 ?_ | refine z1 ?_ | refine z2 ?_ | refine z3 ?_ | refine z4 ?_ | refine z5 ?_ | refine z6 ?_ | refine z7 ?_ | refine z8 ?_ | refine y1 ?_ | refine y2 ?_ | refine y3 ?_ | refine y4 ?_ | refine y5 ?_ | refine y6 ?_ | refine y7 ?_ | refine y8 ?_ | refine Rt.p (fun _ => ?_) fun _ => ?_)
      | ((with_reducible apply w_ixM); (focus exact rfl); (focus exact rfl); case' hk => intro y hy) | ((with_reducible (first | apply w_val | apply q_ends)); (focus exact rfl)))
    rw [hb, hw]; simp [plcF, wsum, tupV, untag, untagL]
  | cons r post =>
    simp only [List.length_append, List.length_cons] at hlen
    have hrr := hr r (by rw [hl]; simp)
    have hwt := hrr.weight
    have hK := rKeeps_c gs rs l r hrr h hg
    simp only [plcF] at hb
    simp only [wsum] at hw
    cases hk : keepsB gs (atL l) r with
    | true =>
      have hbr : brP gs l r = false := by simp [brP, hk]
      rw [hk] at hK
      rw [hbr, if_neg (by simp)] at hb
      rw [hbr, if_neg (by simp)] at hw
      repeat' (first
        | with_reducible (first | refine Rd.p ?_ | refine zE ?_ | refine zE0 ?_)
        | (refine w_ixP hl rfl rfl ?_)
        | with_reducible (first | refine zI fun y hy => ?_ | refine zL ?_ | refine zS ?_ | refine zA fun _ => ?_ | refine zV ?_ | refine zC ?_ | refine zG ?_ | refine zU ?_ | refine zG0 ?_ | refine zU0 ?_ | refine zF ?_)
        | ((with_reducible refine acall_id ?_); refine ACall.val hK rfl rfl ?_)
        | with_reducible (first | refine zX ?_ | refine zD fun _ => ?_ | refine zD0 ?_ | refine zN ?_ | refine zF0 ?_ | refine zX0 ?_ | refine z1 ?_ | refine z2 ?_ | refine z3 ?_ | refine z4 ?_ | refine z5 ?_ | refine z6 ?_ | refine z7 ?_ | refine z8 ?_ | refine y1 ?_ | refine y2 ?_ | refine y3 ?_ | refine y4 ?_ | refine y5 ?_ | refine y6 ?_ | refine y7 ?_ | refine y8 ?_ | refine Rt.p (fun _ => ?_) fun _ => ?_)
        | ((with_reducible apply w_ixM); (focus exact rfl); (focus exact rfl); case' hk => intro y hy) | ((with_reducible (first | apply w_val | apply q_ends)); (focus exact rfl)))
      refine zQ (pre ++ [r], post, m, c, _) ?_ ?_
      · exact ⟨by rw [hl]; simp, by rw [hb, len_snoc], by rw [hw]; simp, hc0, by simp; omega, by simp; omega⟩
      · simp
    | false =>
      have hbr : brP gs l r = true := by simp [brP, hk]
      rw [hk] at hK
      rw [hbr, if_pos rfl] at hb
      rw [hbr, if_pos rfl] at hw
      repeat' (first
        | with_reducible (first | refine Rd.p ?_ | refine zE ?_ | refine zE0 ?_)
        | (refine w_ixP hl rfl rfl ?_)
        | with_reducible (first | refine zI fun y hy => ?_ | refine zL ?_ | refine zS ?_ | refine zA fun _ => ?_ | refine zV ?_ | refine zC ?_ | refine zG ?_ | refine zU ?_ | refine zG0 ?_ | refine zU0 ?_ | refine zF ?_)
        | ((with_reducible refine acall_id ?_); refine ACall.val hK rfl rfl ?_)
        | with_reducible (first | refine zX ?_ | refine zD fun _ => ?_ | refine zD0 ?_ | refine zN ?_ | refine zF0 ?_ | refine zX0 ?_ | refine z1 ?_ | refine z2 ?_ | refine z3 ?_ | refine z4 ?_ | refine z5 ?_ | refine z6 ?_ | refine z7 ?_ | refine z8 ?_ | refine y1 ?_ | refine y2 ?_ | refine y3 ?_ | refine y4 ?_ | refine y5 ?_ | refine y6 ?_ | refine y7 ?_ | refine y8 ?_ | refine Rt.p (fun _ => ?_) fun _ => ?_)
        | ((with_reducible apply w_ixM); (focus exact rfl); (focus exact rfl); case' hk => intro y hy) | ((with_reducible (first | apply w_val | apply q_ends)); (focus exact rfl)))
      refine zQ (pre ++ [r], post, m ++ [(pre.length : Int)], c + r.weight, _) ?_ ?_
      · exact ⟨by rw [hl]; simp, by rw [hb, len_snoc]; simp, by rw [hw]; dsimp only; omega, by dsimp only; omega, by simp; omega, by simp; omega⟩
      · simp
theorem rAllowed_c (gs : List Guest) (rs : List Rule) (m : List Int) (hm : ∀ i ∈ m, 0 ≤ i ∧ i < rs.length) (hl : m.length < 1000000) :
    Fn0 Try.prog 116 [pA gs rs, .slc 1 (iR m) .non] (fun v => v = .bool (m.all fun i => decide (wAt rs i ≠ 0))) := by
  refine RawC.walk (H := hint116 Try.prog) ir116 Try.func116 rfl rfl rfl ?_
  unfold ir116
  repeat' (first
    | with_reducible (first | refine Rd.p ?_ | refine zE ?_ | refine zE0 ?_)
    | with_reducible (first | refine zI fun y hy => ?_ | refine zL ?_ | refine zS ?_ | refine zA fun _ => ?_ | refine zV ?_ | refine zC ?_ | refine zG ?_ | refine zU ?_ | refine zG0 ?_ | refine zU0 ?_ | refine zF ?_)
    | with_reducible (first | refine zX ?_ | refine zD fun _ => ?_ | refine zD0 ?_ | refine zN ?_ | refine zF0 ?_ | refine zX0 ?_ | refine z1 ?_ | refine z2 ?_ | refine z3 ?_ | refine z4 ?_ | refine z5 ?_ | refine z6 ?_ | refine z7 ?_ | refine z8 ?_ | refine y1 ?_ | refine y2 ?_ | refine y3 ?_ | refine y4 ?_ | refine y5 ?_ | refine y6 ?_ | refine y7 ?_ | refine y8 ?_ | refine Rt.p (fun _ => ?_) fun _ => ?_)
    | ((with_reducible apply w_ixM); (focus exact rfl); (focus exact rfl); case' hk => intro y hy) | ((with_reducible (first | apply w_val | apply q_ends)); (focus exact rfl)))
  refine w_loopK [1, 2] [2] (fun x : List Int × List Int => m = x.1 ++ x.2 ∧ x.1.all (fun i => decide (wAt rs i ≠ 0)) = true) (fun x => x.2.length) (fun x => [(5, .int .i64 x.1.length)]) (fun _ => []) ([], m) ⟨rfl, rfl⟩ ⟨rfl, trivial⟩ trivial ?_
  rintro ⟨pre, post⟩ ⟨hl, hb⟩ e σ
  dsimp only at hl hb ⊢
  have hlen := congrArg List.length hl
  cases post with
  | nil =>
    simp only [List.append_nil, List.length_append, List.length_nil] at hlen
    repeat' (first
      | with_reducible (first | refine Rd.p ?_ | refine zE ?_ | refine zE0 ?_)
      | with_reducible (first | refine zI fun y hy => ?_ | refine zL ?_ | refine zS ?_ | refine zA fun _ => ?_ | refine zV ?_ | refine zC ?_ | refine zG ?_ | refine zU ?_ | refine zG0 ?_ | refine zU0 ?_ | refine zF ?_)
      | with_reducible (first | refine zX ?_ | refine zD fun _ => ?_ | refine zD0 ?_ | refine zN ?_ | refine zF0 ?_ | refine zX0 ?_ | refine z1 ?_ | refine z2 ?_ | refine z3 ?_ | refine z4 ?_ | refine z5 ?_ | refine z6 ?_ | refine z7 ?_ | refine z8 ?_ | refine y1 ?_ | refine y2 ?_ | refine y3 ?_ | refine y4 ?_ | refine y5 ?_ | refine y6 ?_ | refine y7 ?_ | refine y8 ?_ | refine Rt.p (fun _ => ?_) fun _ => ?_)
      | ((with_reducible apply w_ixM); (focus exact rfl); (focus exact rfl); case' hk => intro y hy) | ((with_reducible (first | apply w_val | apply q_ends)); (focus exact rfl)))
    rw [hl, List.append_nil, hb]; rfl
  | cons i post =>
    simp only [List.length_append, List.length_cons] at hlen
    have hi := hm i (by rw [hl]; simp)
    repeat' (first
      | with_reducible (first | refine Rd.p ?_ | refine zE ?_ | refine zE0 ?_)
      | (refine w_ixP hl rfl rfl ?_)
      | with_reducible (first | refine zI fun y hy => ?_ | refine zL ?_ | refine zS ?_ | refine zA fun _ => ?_ | refine zV ?_ | refine zC ?_ | refine zG ?_ | refine zU ?_ | refine zG0 ?_ | refine zU0 ?_ | refine zF ?_)
      | with_reducible (first | refine zX ?_ | refine zD fun _ => ?_ | refine zD0 ?_ | refine zN ?_ | refine zF0 ?_ | refine zX0 ?_ | refine z1 ?_ | refine z2 ?_ | refine z3 ?_ | refine z4 ?_ | refine z5 ?_ | refine z6 ?_ | refine z7 ?_ | refine z8 ?_ | refine y1 ?_ | refine y2 ?_ | refine y3 ?_ | refine y4 ?_ | refine y5 ?_ | refine y6 ?_ | refine y7 ?_ | refine y8 ?_ | refine Rt.p (fun _ => ?_) fun _ => ?_)
      | ((with_reducible apply w_ixM); (focus exact rfl); (focus exact rfl); case' hk => intro y hy) | ((with_reducible (first | apply w_val | apply q_ends)); (focus exact rfl)))
    all_goals
      rename_i h
      have hw : wAt rs i = y.weight := by simp [wAt, hy]
    · refine congrArg AV.bool (Eq.symm ?_)
      rw [hl, List.all_append, List.all_cons, hw, h]; simp
    · refine zQ (pre ++ [i], post) ?_ ?_
      · refine ⟨by rw [hl]; simp, ?_⟩
        rw [List.all_append, hb, List.all_cons, hw]; simp [h]
      · simp
theorem rOrders_c (n : Nat) (hn : n ≤ 7) : ∀ (k : Nat) (now : List Int), now.length + k = n →
    Fn0 Try.prog 49 [.int .i64 n, .slc 1 (iR now) .non] (fun v => v = .slc 1 (llR (permsK n k now)) .non)
  | 0, now, hk => by
    refine RawC.walk (H := hint49 Try.prog) ir49 Try.func49 rfl rfl rfl ?_
    unfold ir49
    repeat' (first
      | with_reducible (first | refine Rd.p ?_ | refine zE ?_ | refine zE0 ?_)
      | with_reducible (first | refine zI fun y hy => ?_ | refine zL ?_ | refine zS ?_ | refine zA fun _ => ?_ | refine zV ?_ | refine zC ?_ | refine zG ?_ | refine zU ?_ | refine zG0 ?_ | refine zU0 ?_ | refine zF ?_)
      | with_reducible (first | refine zX ?_ | refine zD fun _ => ?_ | refine zD0 ?_ | refine zN ?_ | refine zF0 ?_ | refine zX0 ?_ | refine z1 ?_ | refine z2 ?_ | refine z3 ?_ | refine z4 ?_ | refine z5 ?_ | refine z6 ?_ | refine z7 ?_ | refine z8 ?_ | refine y1 ?_ | refine y2 ?_ | refine y3 ?_ | refine y4 ?_ | refine y5 ?_ | refine y6 ?_ | refine y7 ?_ | refine y8 ?_ | refine Rt.p (fun _ => ?_) fun _ => ?_)
      | ((with_reducible apply w_ixM); (focus exact rfl); (focus exact rfl); case' hk => intro y hy) | ((with_reducible (first | apply w_val | apply q_ends)); (focus exact rfl)))
    exact rfl
  | k + 1, now, hk => by
    obtain ⟨B, hB, hkB⟩ : ∃ B, B ≤ 1000000 ∧ ∀ c : List Int, (permsK n k c).length ≤ B := ⟨7 ^ 7, by decide, fun c => Nat.le_trans (permsK_len n k c) (Nat.le_trans (Nat.pow_le_pow_left hn k) (Nat.pow_le_pow_right (by omega) (by omega)))⟩
    refine RawC.walk (H := hint49 Try.prog) ir49 Try.func49 rfl rfl rfl ?_
    unfold ir49
    repeat' (first
      | with_reducible (first | refine Rd.p ?_ | refine zE ?_ | refine zE0 ?_)
      | with_reducible (first | refine zI fun y hy => ?_ | refine zL ?_ | refine zS ?_ | refine zA fun _ => ?_ | refine zV ?_ | refine zC ?_ | refine zG ?_ | refine zU ?_ | refine zG0 ?_ | refine zU0 ?_ | refine zF ?_)
      | with_reducible (first | refine zX ?_ | refine zD fun _ => ?_ | refine zD0 ?_ | refine zN ?_ | refine zF0 ?_ | refine zX0 ?_ | refine z1 ?_ | refine z2 ?_ | refine z3 ?_ | refine z4 ?_ | refine z5 ?_ | refine z6 ?_ | refine z7 ?_ | refine z8 ?_ | refine y1 ?_ | refine y2 ?_ | refine y3 ?_ | refine y4 ?_ | refine y5 ?_ | refine y6 ?_ | refine y7 ?_ | refine y8 ?_ | refine Rt.p (fun _ => ?_) fun _ => ?_)
      | ((with_reducible apply w_ixM); (focus exact rfl); (focus exact rfl); case' hk => intro y hy) | ((with_reducible (first | apply w_val | apply q_ends)); (focus exact rfl)))
    rename_i g0
    refine w_loopK [0, 1] [] (fun x : Nat × Nat × List (List Int) × Nat => x.1 + x.2.1 = n ∧ permsK n (k + 1) now = x.2.2.1 ++ (candF now x.2.1 x.1).flatMap (fun g => permsK n k (now ++ [g])) ∧ x.2.2.1.length ≤ x.1 * B)
      (fun x => x.2.1) (fun x => [(6, .int .i64 x.1), (5, .slc 1 (llR x.2.2.1) (.own 5 x.2.2.2))]) (fun x => [(5, (x.2.2.2, .row []))]) (0, n, [], g0) ⟨by dsimp only; omega, rfl, by simp⟩ ⟨rfl, rfl, trivial⟩ ⟨rfl, trivial⟩ ?_
    rintro ⟨i, m, out, g⟩ ⟨hi, hm, ho⟩ e σ
    dsimp only at hi hm ho ⊢
    cases m with
    | zero =>
      repeat' (first
        | with_reducible (first | refine Rd.p ?_ | refine zE ?_ | refine zE0 ?_)
        | with_reducible (first | refine zI fun y hy => ?_ | refine zL ?_ | refine zS ?_ | refine zA fun _ => ?_ | refine zV ?_ | refine zC ?_ | refine zG ?_ | refine zU ?_ | refine zG0 ?_ | refine zU0 ?_ | refine zF ?_)
        | with_reducible (first | refine zX ?_ | refine zD fun _ => ?_ | refine zD0 ?_ | refine zN ?_ | refine zF0 ?_ | refine zX0 ?_ | refine z1 ?_ | refine z2 ?_ | refine z3 ?_ | refine z4 ?_ | refine z5 ?_ | refine z6 ?_ | refine z7 ?_ | refine z8 ?_ | refine y1 ?_ | refine y2 ?_ | refine y3 ?_ | refine y4 ?_ | refine y5 ?_ | refine y6 ?_ | refine y7 ?_ | refine y8 ?_ | refine Rt.p (fun _ => ?_) fun _ => ?_)
        | ((with_reducible apply w_ixM); (focus exact rfl); (focus exact rfl); case' hk => intro y hy) | ((with_reducible (first | apply w_val | apply q_ends)); (focus exact rfl)))
      rw [hm]; simp [candF, tupV, untag, untagL]
    | succ m =>
      have hk1 := hkB (now ++ [(i : Int)])
      have hpB : i * B ≤ 7 * 1000000 := Nat.mul_le_mul (by omega) hB
      rw [candF] at hm
      have hs := rseat_c now i (by omega)
      repeat' (first
        | with_reducible (first | refine Rd.p ?_ | refine zE ?_ | refine zE0 ?_)
        | with_reducible (first | refine zI fun y hy => ?_ | refine zL ?_ | refine zS ?_ | refine zA fun _ => ?_ | refine zV ?_ | refine zC ?_ | refine zG ?_ | refine zU ?_ | refine zG0 ?_ | refine zU0 ?_ | refine zF ?_)
        | ((with_reducible refine acall_id ?_); refine ACall.val hs rfl rfl ?_)
        | ((with_reducible refine acall_id ?_); refine ACall.val (rOrders_c n hn k (now ++ [(i : Int)]) (by simp; omega)) rfl rfl ?_)
        | with_reducible (first | refine zX ?_ | refine zD fun _ => ?_ | refine zD0 ?_ | refine zN ?_ | refine zF0 ?_ | refine zX0 ?_ | refine z1 ?_ | refine z2 ?_ | refine z3 ?_ | refine z4 ?_ | refine z5 ?_ | refine z6 ?_ | refine z7 ?_ | refine z8 ?_ | refine y1 ?_ | refine y2 ?_ | refine y3 ?_ | refine y4 ?_ | refine y5 ?_ | refine y6 ?_ | refine y7 ?_ | refine y8 ?_ | refine Rt.p (fun _ => ?_) fun _ => ?_)
        | ((with_reducible apply w_ixM); (focus exact rfl); (focus exact rfl); case' hk => intro y hy) | ((with_reducible (first | apply w_val | apply q_ends)); (focus exact rfl)))
      · rename_i hd _ _ _
        rw [if_neg (by omega), List.flatMap_cons, ← List.append_assoc] at hm
        refine zQ (i + 1, m, out ++ permsK n k (now ++ [(i : Int)]), _) ?_ ?_
        · exact ⟨by dsimp only; omega, hm, by simp only [List.length_append, Nat.add_mul, Nat.one_mul]; omega⟩
        · simp
      · rename_i hd
        rw [if_pos (by omega)] at hm
        refine zQ (i + 1, m, out, _) ?_ ?_
        · exact ⟨by dsimp only; omega, hm, by simp only [Nat.add_mul, Nat.one_mul]; omega⟩
        · simp
theorem plc_alw (gs : List Guest) (rs : List Rule) (l : List Int) : ((plcF (brP gs l) 0 rs).all fun i => decide (wAt rs i ≠ 0)) = alwB gs rs l := by
  have h := plc_all (q := fun r => decide (r.weight ≠ 0)) (brP gs l) rs []
  rw [List.nil_append, List.length_nil] at h
  have h2 : (rs.all fun r => !brP gs l r || decide (r.weight ≠ 0)) = alwB gs rs l := by
    rw [alwB]
    congr 1
    funext r
    simp [brP, Bool.or_comm]
  rw [← h2, ← h, Bool.eq_iff_iff, List.all_eq_true, List.all_eq_true]
  have key : ∀ i ∈ plcF (brP gs l) 0 rs, (decide (wAt rs i ≠ 0) = true ↔ ((rs[i.toNat]?).map fun r => decide (r.weight ≠ 0)).getD true = true) := by
    intro i hi
    have hb := plcF_mem _ rs 0 hi
    have hlt : i.toNat < rs.length := by omega
    simp [wAt, List.getElem?_eq_getElem hlt]
  exact ⟨fun h3 i hi => (key i hi).1 (h3 i hi), fun h3 i hi => (key i hi).2 (h3 i hi)⟩
end Go.Abs
