/- A part of the proofs of the laws of this seat: contracts of the functions that they reach, each proved of the program's form in Lean. No condition beyond those that each contract names. -/
import Derived.Test.YtcgcciegekaliaaB0
import Derived.Test.YtcgcciegekaliaaB11
import Derived.Test.YtcgcciegekaliaaB16
import Derived.Test.YtcgcciegekaliaaB20
import Derived.Test.YtcgcciegekaliaaB12
import Derived.Test.YtcgcciegekaliaaB5
import Derived.Test.YtcgcciegekaliaaB8
import Derived.Test.YtcgcciegekaliaaB22
import Derived.Test.YtcgcciegekaliaaB19a
import Derived.Test.YtcgcciegekaliaaB2
set_option linter.unusedVariables false
set_option linter.unusedSimpArgs false
set_option maxRecDepth 20000
set_option maxHeartbeats 4000000
/-! ### The reference's Count and Best -/
namespace Go.Abs
open Go.Proofs
/-- aloeswood/aloeswoodref08.good -/
def ir93 : IFn :=
  ⟨38, [(2, none)], (.seq (.ops [⟨(some 1), none, (.box 2 (.t 0))⟩,
    ⟨(some 2), none, (.mov (.k .nsl))⟩])
  (.seq (.ops [⟨(some 8), none, (.flA 0 (.t 1))⟩,
    ⟨(some 9), none, (.ld 1 false (.t 8))⟩,
    ⟨(some 10), none, (.len false (.t 9))⟩,
    ⟨(some 11), none, (.callF 49 [(.t 10), (.k .nsl)])⟩,
    ⟨(some 3), none, (.mov (.t 11))⟩])
  (.seq (.ops [⟨(some 4), none, (.nil 1 4)⟩])
  (.seq (.seq (.ops [⟨(some 5), none, (.mov (.k (.int .i64 0)))⟩])
  (.blk 0 (.loop (.seq (.seq (.ops [⟨(some 12), none, (.mov (.t 5))⟩,
        ⟨(some 13), none, (.mov (.t 3))⟩,
        ⟨(some 14), none, (.len false (.t 13))⟩,
        ⟨(some 15), none, (.bin .lss (.t 12) (.t 14))⟩])
      (.cnd (.t 15)
        .skip
        (.exit 0)))
      (.seq (.blk 1 (.seq (.ops [⟨(some 19), none, (.ld 2 true (.t 1))⟩,
          ⟨(some 20), none, (.mov (.t 3))⟩,
          ⟨(some 21), none, (.mov (.t 5))⟩,
          ⟨(some 22), none, (.ixA 1 (.t 20) (.t 21))⟩,
          ⟨(some 23), none, (.ld 1 false (.t 22))⟩,
          ⟨(some 24), none, (.callF 89 [(.t 19), (.t 23)])⟩,
          ⟨(some 18), none, (.mov (.t 24))⟩,
          ⟨(some 25), none, (.ext 0 (.t 18))⟩,
          ⟨(some 26), none, (.ext 1 (.t 18))⟩,
          ⟨(some 6), none, (.mov (.t 25))⟩,
          ⟨(some 7), none, (.mov (.t 26))⟩])
        (.seq (.ops [⟨(some 27), none, (.ld 2 true (.t 1))⟩,
          ⟨(some 28), none, (.mov (.t 6))⟩,
          ⟨(some 29), none, (.callF 116 [(.t 27), (.t 28)])⟩])
        (.cnd (.t 29)
          (.ops [⟨(some 30), none, (.mov (.t 4))⟩,
            ⟨(some 31), none, (.mov (.t 3))⟩,
            ⟨(some 32), none, (.mov (.t 5))⟩,
            ⟨(some 33), none, (.ixA 1 (.t 31) (.t 32))⟩,
            ⟨(some 34), none, (.ld 1 false (.t 33))⟩,
            ⟨(some 35), none, (.bsl 1 [[.nsl]] [(0, (.t 34))])⟩,
            ⟨(some 36), none, (.app 1 24 (.t 30) (.t 35) 4)⟩,
            ⟨(some 4), none, (.mov (.t 36))⟩])
          .skip))))
      (.ops [⟨(some 16), none, (.mov (.t 5))⟩,
        ⟨(some 17), none, (.bin .add (.t 16) (.k (.int .i64 1)))⟩,
        ⟨(some 5), none, (.mov (.t 17))⟩]))))))
  (.seq (.ops [⟨(some 37), none, (.mov (.t 4))⟩,
    ⟨(some 2), none, (.mov (.t 37))⟩])
  .ret)))))⟩
def hint93 (P : Program) : Hint := { site := [(36, 4)], nils := [(4, 1)], frz := [], mve := [], wr := [] }

/-- aloeswood/aloeswoodref08.Count -/
def ir43 : IFn :=
  ⟨13, [(2, none), (3, none)], (.seq (.ops [⟨(some 1), none, (.box 2 (.t 0))⟩,
    ⟨(some 2), none, (.mov (.k (.int .i64 0)))⟩,
    ⟨(some 3), none, (.mov (.k (.int .i64 0)))⟩])
  (.seq (.seq (.ops [⟨(some 5), none, (.ld 2 true (.t 1))⟩,
    ⟨(some 6), none, (.callF 40 [(.t 5)])⟩,
    ⟨(some 4), none, (.mov (.t 6))⟩])
  (.seq (.ops [⟨(some 7), none, (.mov (.t 4))⟩,
    ⟨(some 8), none, (.bin .neq (.t 7) (.k (.int .i64 0)))⟩])
  (.cnd (.t 8)
    (.seq (.ops [⟨(some 9), none, (.mov (.t 4))⟩,
      ⟨(some 2), none, (.mov (.k (.int .i64 0)))⟩,
      ⟨(some 3), none, (.mov (.t 9))⟩])
    .ret)
    .skip)))
  (.seq (.ops [⟨(some 10), none, (.ld 2 true (.t 1))⟩,
    ⟨(some 11), none, (.callF 93 [(.t 10)])⟩,
    ⟨(some 12), none, (.len false (.t 11))⟩,
    ⟨(some 2), none, (.mov (.t 12))⟩,
    ⟨(some 3), none, (.mov (.k (.int .i64 0)))⟩])
  .ret)))⟩
def hint43 (P : Program) : Hint := {}

/-- aloeswood/aloeswoodref08.Best -/
def ir44 : IFn :=
  ⟨54, [(2, none), (3, none), (4, none)], (.seq (.ops [⟨(some 1), none, (.box 2 (.t 0))⟩,
    ⟨(some 2), none, (.mov (.k .nsl))⟩,
    ⟨(some 3), none, (.mov (.k (.int .i64 0)))⟩,
    ⟨(some 4), none, (.mov (.k (.int .i64 0)))⟩])
  (.seq (.seq (.ops [⟨(some 12), none, (.ld 2 true (.t 1))⟩,
    ⟨(some 13), none, (.callF 40 [(.t 12)])⟩,
    ⟨(some 5), none, (.mov (.t 13))⟩])
  (.seq (.ops [⟨(some 14), none, (.mov (.t 5))⟩,
    ⟨(some 15), none, (.bin .neq (.t 14) (.k (.int .i64 0)))⟩])
  (.cnd (.t 15)
    (.seq (.ops [⟨(some 16), none, (.mov (.t 5))⟩,
      ⟨(some 2), none, (.mov (.k .nsl))⟩,
      ⟨(some 3), none, (.mov (.k (.int .i64 0)))⟩,
      ⟨(some 4), none, (.mov (.t 16))⟩])
    .ret)
    .skip)))
  (.seq (.ops [⟨(some 17), none, (.ld 2 true (.t 1))⟩,
    ⟨(some 18), none, (.callF 93 [(.t 17)])⟩,
    ⟨(some 6), none, (.mov (.t 18))⟩])
  (.seq (.seq (.ops [⟨(some 19), none, (.mov (.t 6))⟩,
    ⟨(some 20), none, (.len false (.t 19))⟩,
    ⟨(some 21), none, (.bin .eql (.t 20) (.k (.int .i64 0)))⟩])
  (.cnd (.t 21)
    (.seq (.ops [⟨(some 2), none, (.mov (.k .nsl))⟩,
      ⟨(some 3), none, (.mov (.k (.int .i64 0)))⟩,
      ⟨(some 4), none, (.mov (.k (.int .i64 12)))⟩])
    .ret)
    .skip))
  (.seq (.ops [⟨(some 22), none, (.mov (.t 6))⟩,
    ⟨(some 23), none, (.ixA 1 (.t 22) (.k (.int .i64 0)))⟩,
    ⟨(some 24), none, (.ld 1 false (.t 23))⟩,
    ⟨(some 7), none, (.mov (.t 24))⟩,
    ⟨(some 8), none, (.mov (.k (.int .i64 0)))⟩])
  (.seq (.seq (.ops [⟨(some 9), none, (.mov (.k (.int .i64 0)))⟩])
  (.blk 0 (.loop (.seq (.seq (.ops [⟨(some 25), none, (.mov (.t 9))⟩,
        ⟨(some 26), none, (.mov (.t 6))⟩,
        ⟨(some 27), none, (.len false (.t 26))⟩,
        ⟨(some 28), none, (.bin .lss (.t 25) (.t 27))⟩])
      (.cnd (.t 28)
        .skip
        (.exit 0)))
      (.seq (.blk 1 (.seq (.ops [⟨(some 32), none, (.ld 2 true (.t 1))⟩,
          ⟨(some 33), none, (.mov (.t 6))⟩,
          ⟨(some 34), none, (.mov (.t 9))⟩,
          ⟨(some 35), none, (.ixA 1 (.t 33) (.t 34))⟩,
          ⟨(some 36), none, (.ld 1 false (.t 35))⟩,
          ⟨(some 37), none, (.callF 89 [(.t 32), (.t 36)])⟩,
          ⟨(some 31), none, (.mov (.t 37))⟩,
          ⟨(some 38), none, (.ext 0 (.t 31))⟩,
          ⟨(some 39), none, (.ext 1 (.t 31))⟩,
          ⟨(some 10), none, (.mov (.t 38))⟩,
          ⟨(some 11), none, (.mov (.t 39))⟩])
        (.seq (.ops [⟨(some 40), none, (.mov (.t 9))⟩,
          ⟨(some 41), none, (.bin .eql (.t 40) (.k (.int .i64 0)))⟩,
          ⟨(some 42), none, (.mov (.t 41))⟩,
          ⟨(some 43), (some (42, false)), (.mov (.t 11))⟩,
          ⟨(some 44), (some (42, false)), (.mov (.t 8))⟩,
          ⟨(some 45), (some (42, false)), (.bin .lss (.t 43) (.t 44))⟩,
          ⟨(some 46), none, (.pick (.t 42) (.k (.bool true)) (.t 45))⟩])
        (.cnd (.t 46)
          (.ops [⟨(some 47), none, (.mov (.t 6))⟩,
            ⟨(some 48), none, (.mov (.t 9))⟩,
            ⟨(some 49), none, (.ixA 1 (.t 47) (.t 48))⟩,
            ⟨(some 50), none, (.ld 1 false (.t 49))⟩,
            ⟨(some 51), none, (.mov (.t 11))⟩,
            ⟨(some 7), none, (.mov (.t 50))⟩,
            ⟨(some 8), none, (.mov (.t 51))⟩])
          .skip))))
      (.ops [⟨(some 29), none, (.mov (.t 9))⟩,
        ⟨(some 30), none, (.bin .add (.t 29) (.k (.int .i64 1)))⟩,
        ⟨(some 9), none, (.mov (.t 30))⟩]))))))
  (.seq (.ops [⟨(some 52), none, (.mov (.t 7))⟩,
    ⟨(some 53), none, (.mov (.t 8))⟩,
    ⟨(some 2), none, (.mov (.t 52))⟩,
    ⟨(some 3), none, (.mov (.t 53))⟩,
    ⟨(some 4), none, (.mov (.k (.int .i64 0)))⟩])
  .ret)))))))⟩
def hint44 (P : Program) : Hint := {}

theorem perms_len {n : Nat} (h : n ≤ 7) : (perms n).length ≤ 823543 := by
  have h2 := permsK_len n n []
  have h3 : n ^ n ≤ 7 ^ 7 := Nat.le_trans (Nat.pow_le_pow_left h _) (Nat.pow_le_pow_right (by omega) h)
  have h4 : (7 : Nat) ^ 7 = 823543 := by decide
  have h5 : (perms n).length = (permsK n n []).length := rfl
  omega
theorem rgood_c (gs : List Guest) (rs : List Rule) (hp : pOK gs rs) : Fn0 Try.prog 93 [pA gs rs] (fun v => v = .slc 1 (llR (okL gs rs)) .non) := by
  have h7 := hp.g7
  have h12 := hp.r12
  have hpl := perms_len h7
  have hO : Fn0 Try.prog 49 [.int .i64 gs.length, .slc 1 (iR []) .non] (fun v => v = .slc 1 (llR (perms gs.length)) .non) := rOrders_c gs.length h7 gs.length [] (by simp)
  refine RawC.walk (H := hint93 Try.prog) ir93 Try.func93 rfl rfl rfl ?_
  unfold ir93
  repeat' (first
    | with_reducible (first | refine Rd.p ?_ | refine zE ?_ | refine zE0 ?_)
    | with_reducible (first | refine zI fun y hy => ?_ | refine zL ?_ | refine zS ?_ | refine zA fun _ => ?_ | refine zV ?_ | refine zC ?_ | refine zG ?_ | refine zU ?_ | refine zG0 ?_ | refine zU0 ?_ | refine zF ?_)
    | (refine ACall.wval (args' := [.int .i64 gs.length, .slc 1 (iR []) .non]) (.cons (Sub.refl _) (.cons Sub.nil .nil)) hO rfl rfl ?_)
    | with_reducible (first | refine zX ?_ | refine zD fun _ => ?_ | refine zD0 ?_ | refine zN ?_ | refine zF0 ?_ | refine zX0 ?_ | refine z1 ?_ | refine z2 ?_ | refine z3 ?_ | refine z4 ?_ | refine z5 ?_ | refine z6 ?_ | refine z7 ?_ | refine z8 ?_ | refine y1 ?_ | refine y2 ?_ | refine y3 ?_ | refine y4 ?_ | refine y5 ?_ | refine y6 ?_ | refine y7 ?_ | refine y8 ?_ | refine Rt.p (fun _ => ?_) fun _ => ?_)
    | ((with_reducible apply w_ixM); (focus exact rfl); (focus exact rfl); case' hk => intro y hy) | ((with_reducible (first | apply w_val | apply q_ends)); (focus exact rfl)))
  rename_i g0
  refine w_loopK [1, 3] [1] (fun x : List (List Int) × List (List Int) × List (List Int) × Nat => perms gs.length = x.1 ++ x.2.1 ∧ okL gs rs = x.2.2.1 ++ x.2.1.filter (alwB gs rs) ∧ x.2.2.1.length ≤ x.1.length) (fun x => x.2.1.length)
    (fun x => [(5, .int .i64 x.1.length), (4, .slc 1 (llR x.2.2.1) (.own 4 x.2.2.2))]) (fun x => [(4, (x.2.2.2, .row []))]) ([], perms gs.length, [], g0) ⟨rfl, rfl, by simp⟩ ⟨rfl, rfl, trivial⟩ ⟨rfl, trivial⟩ ?_
  rintro ⟨pre, post, out, g⟩ ⟨hl, hb, ho⟩ e σ
  dsimp only at hl hb ho ⊢
  have hlen := congrArg List.length hl
  cases post with
  | nil =>
    simp only [List.append_nil, List.length_append, List.length_nil] at hlen
    repeat' (first
      | with_reducible (first | refine Rd.p ?_ | refine zE ?_ | refine zE0 ?_)
      | with_reducible (first | refine zI fun y hy => ?_ | refine zL ?_ | refine zS ?_ | refine zA fun _ => ?_ | refine zV ?_ | refine zC ?_ | refine zG ?_ | refine zU ?_ | refine zG0 ?_ | refine zU0 ?_ | refine zF ?_)
      | with_reducible (first | refine zX ?_ | refine zD fun _ => ?_ | refine zD0 ?_ | refine zN ?_ | refine zF0 ?_ | refine zX0 ?_ | refine z1 ?_ | refine z2 ?_ | refine z3 ?_ | refine z4 ?_ | refine z5 ?_ | refine z6 ?_ | refine z7 ?_ | refine z8 ?_ | refine y1 ?_ | refine y2 ?_ | refine y3 ?_ | refine y4 ?_ | refine y5 ?_ | refine y6 ?_ | refine y7 ?_ | refine y8 ?_ | refine Rt.p (fun _ => ?_) fun _ => ?_)
      | ((with_reducible apply w_ixM); (focus exact rfl); (focus exact rfl); case' hk => intro y hy) | ((with_reducible (first | apply w_val | apply q_ends)); (focus exact rfl)))
    rw [hb]; simp [tupV, untag, untagL]
  | cons l post =>
    simp only [List.length_append, List.length_cons] at hlen
    have hpm := perm_of (show l ∈ perms gs.length by rw [hl]; simp)
    have hB := rBroken_c gs rs l hp.r hpm (by omega) (by omega)
    have hA := rAllowed_c gs rs (plcF (brP gs l) 0 rs) (fun i hi => by have := plcF_mem _ rs 0 hi; omega) (by
      rw [plcF_filter, List.length_map]
      have := List.length_filter_le (fun k => ((rs[k - 0]?).map (brP gs l)).getD false) (List.range' 0 rs.length)
      rw [List.length_range'] at this; omega)
    rw [plc_alw] at hA
    rw [List.filter_cons] at hb
    cases hal : alwB gs rs l with
    | true =>
      rw [hal] at hA
      rw [hal, if_pos rfl] at hb
      repeat' (first
        | with_reducible (first | refine Rd.p ?_ | refine zE ?_ | refine zE0 ?_)
        | (refine w_ixP hl rfl rfl ?_)
        | with_reducible (first | refine zI fun y hy => ?_ | refine zL ?_ | refine zS ?_ | refine zA fun _ => ?_ | refine zV ?_ | refine zC ?_ | refine zG ?_ | refine zU ?_ | refine zG0 ?_ | refine zU0 ?_ | refine zF ?_)
        | ((with_reducible refine acall_id ?_); refine ACall.val hB rfl rfl ?_)
        | ((with_reducible refine acall_id ?_); refine ACall.val hA rfl rfl ?_)
        | with_reducible (first | refine zX ?_ | refine zD fun _ => ?_ | refine zD0 ?_ | refine zN ?_ | refine zF0 ?_ | refine zX0 ?_ | refine z1 ?_ | refine z2 ?_ | refine z3 ?_ | refine z4 ?_ | refine z5 ?_ | refine z6 ?_ | refine z7 ?_ | refine z8 ?_ | refine y1 ?_ | refine y2 ?_ | refine y3 ?_ | refine y4 ?_ | refine y5 ?_ | refine y6 ?_ | refine y7 ?_ | refine y8 ?_ | refine Rt.p (fun _ => ?_) fun _ => ?_)
        | ((with_reducible apply w_ixM); (focus exact rfl); (focus exact rfl); case' hk => intro y hy) | ((with_reducible (first | apply w_val | apply q_ends)); (focus exact rfl)))
      refine zQ (pre ++ [l], post, out ++ [l], _) ?_ ?_
      · exact ⟨by rw [hl]; simp, by rw [hb]; simp, by simp; omega⟩
      · simp
    | false =>
      rw [hal] at hA
      rw [hal, if_neg (by simp)] at hb
      repeat' (first
        | with_reducible (first | refine Rd.p ?_ | refine zE ?_ | refine zE0 ?_)
        | (refine w_ixP hl rfl rfl ?_)
        | with_reducible (first | refine zI fun y hy => ?_ | refine zL ?_ | refine zS ?_ | refine zA fun _ => ?_ | refine zV ?_ | refine zC ?_ | refine zG ?_ | refine zU ?_ | refine zG0 ?_ | refine zU0 ?_ | refine zF ?_)
        | ((with_reducible refine acall_id ?_); refine ACall.val hB rfl rfl ?_)
        | ((with_reducible refine acall_id ?_); refine ACall.val hA rfl rfl ?_)
        | with_reducible (first | refine zX ?_ | refine zD fun _ => ?_ | refine zD0 ?_ | refine zN ?_ | refine zF0 ?_ | refine zX0 ?_ | refine z1 ?_ | refine z2 ?_ | refine z3 ?_ | refine z4 ?_ | refine z5 ?_ | refine z6 ?_ | refine z7 ?_ | refine z8 ?_ | refine y1 ?_ | refine y2 ?_ | refine y3 ?_ | refine y4 ?_ | refine y5 ?_ | refine y6 ?_ | refine y7 ?_ | refine y8 ?_ | refine Rt.p (fun _ => ?_) fun _ => ?_)
        | ((with_reducible apply w_ixM); (focus exact rfl); (focus exact rfl); case' hk => intro y hy) | ((with_reducible (first | apply w_val | apply q_ends)); (focus exact rfl)))
      refine zQ (pre ++ [l], post, out, _) ?_ ?_
      · exact ⟨by rw [hl]; simp, hb, by simp; omega⟩
      · simp
theorem rCount_c (gs : List Guest) (rs : List Rule) (hl0 : gs.length < 1000) (hr0 : rs.length < 1000) (hs : ∀ g ∈ gs, g.name.size ≤ 1000) :
    Fn0 Try.prog 43 [pA gs rs] (fun v => v = .tup [.int .i64 (if pErr gs rs = 0 then ((okL gs rs).length : Int) else 0), .int .i64 (pErr gs rs)]) := by
  have hck := rCheck_c gs rs hl0 hr0 hs
  by_cases h0 : pErr gs rs = 0
  case neg =>
    rw [if_neg h0]
    refine RawC.walk (H := hint43 Try.prog) ir43 Try.func43 rfl rfl rfl ?_
    unfold ir43
    repeat' (first
      | with_reducible (first | refine Rd.p ?_ | refine zE ?_ | refine zE0 ?_)
      | with_reducible (first | refine zI fun y hy => ?_ | refine zL ?_ | refine zS ?_ | refine zA fun _ => ?_ | refine zV ?_ | refine zC ?_ | refine zG ?_ | refine zU ?_ | refine zG0 ?_ | refine zU0 ?_ | refine zF ?_)
      | ((with_reducible refine acall_id ?_); refine ACall.val hck rfl rfl ?_)
      | with_reducible (first | refine zX ?_ | refine zD fun _ => ?_ | refine zD0 ?_ | refine zN ?_ | refine zF0 ?_ | refine zX0 ?_ | refine z1 ?_ | refine z2 ?_ | refine z3 ?_ | refine z4 ?_ | refine z5 ?_ | refine z6 ?_ | refine z7 ?_ | refine z8 ?_ | refine y1 ?_ | refine y2 ?_ | refine y3 ?_ | refine y4 ?_ | refine y5 ?_ | refine y6 ?_ | refine y7 ?_ | refine y8 ?_ | refine Rt.p (fun _ => ?_) fun _ => ?_)
      | ((with_reducible apply w_ixM); (focus exact rfl); (focus exact rfl); case' hk => intro y hy) | ((with_reducible (first | apply w_val | apply q_ends)); (focus exact rfl)))
    rfl
  rw [if_pos h0, h0]
  rw [h0] at hck
  have hg := rgood_c gs rs (pOK_of h0)
  refine RawC.walk (H := hint43 Try.prog) ir43 Try.func43 rfl rfl rfl ?_
  unfold ir43
  repeat' (first
    | with_reducible (first | refine Rd.p ?_ | refine zE ?_ | refine zE0 ?_)
    | with_reducible (first | refine zI fun y hy => ?_ | refine zL ?_ | refine zS ?_ | refine zA fun _ => ?_ | refine zV ?_ | refine zC ?_ | refine zG ?_ | refine zU ?_ | refine zG0 ?_ | refine zU0 ?_ | refine zF ?_)
    | ((with_reducible refine acall_id ?_); refine ACall.val hck rfl rfl ?_)
    | ((with_reducible refine acall_id ?_); refine ACall.val hg rfl rfl ?_)
    | with_reducible (first | refine zX ?_ | refine zD fun _ => ?_ | refine zD0 ?_ | refine zN ?_ | refine zF0 ?_ | refine zX0 ?_ | refine z1 ?_ | refine z2 ?_ | refine z3 ?_ | refine z4 ?_ | refine z5 ?_ | refine z6 ?_ | refine z7 ?_ | refine z8 ?_ | refine y1 ?_ | refine y2 ?_ | refine y3 ?_ | refine y4 ?_ | refine y5 ?_ | refine y6 ?_ | refine y7 ?_ | refine y8 ?_ | refine Rt.p (fun _ => ?_) fun _ => ?_)
    | ((with_reducible apply w_ixM); (focus exact rfl); (focus exact rfl); case' hk => intro y hy) | ((with_reducible (first | apply w_val | apply q_ends)); (focus exact rfl)))
  rfl
theorem rBest_c (gs : List Guest) (rs : List Rule) (hl0 : gs.length < 1000) (hr0 : rs.length < 1000) (hs : ∀ g ∈ gs, g.name.size ≤ 1000) :
    Fn0 Try.prog 44 [pA gs rs] (fun v => v = .tup [optV (bestP gs rs).1, .int .i64 (bestP gs rs).2.1, .int .i64 (bestP gs rs).2.2]) := by
  have hck := rCheck_c gs rs hl0 hr0 hs
  by_cases h0 : pErr gs rs = 0
  case neg =>
    rw [show bestP gs rs = (none, 0, pErr gs rs) by rw [bestP, if_neg h0]]
    refine RawC.walk (H := hint44 Try.prog) ir44 Try.func44 rfl rfl rfl ?_
    unfold ir44
    repeat' (first
      | with_reducible (first | refine Rd.p ?_ | refine zE ?_ | refine zE0 ?_)
      | with_reducible (first | refine zI fun y hy => ?_ | refine zL ?_ | refine zS ?_ | refine zA fun _ => ?_ | refine zV ?_ | refine zC ?_ | refine zG ?_ | refine zU ?_ | refine zG0 ?_ | refine zU0 ?_ | refine zF ?_)
      | ((with_reducible refine acall_id ?_); refine ACall.val hck rfl rfl ?_)
      | with_reducible (first | refine zX ?_ | refine zD fun _ => ?_ | refine zD0 ?_ | refine zN ?_ | refine zF0 ?_ | refine zX0 ?_ | refine z1 ?_ | refine z2 ?_ | refine z3 ?_ | refine z4 ?_ | refine z5 ?_ | refine z6 ?_ | refine z7 ?_ | refine z8 ?_ | refine y1 ?_ | refine y2 ?_ | refine y3 ?_ | refine y4 ?_ | refine y5 ?_ | refine y6 ?_ | refine y7 ?_ | refine y8 ?_ | refine Rt.p (fun _ => ?_) fun _ => ?_)
      | ((with_reducible apply w_ixM); (focus exact rfl); (focus exact rfl); case' hk => intro y hy) | ((with_reducible (first | apply w_val | apply q_ends)); (focus exact rfl)))
    rfl
  have hp := pOK_of h0
  have hg := rgood_c gs rs hp
  have hol := okL_len gs rs hp.g7
  rw [h0] at hck
  rcases bestP_cases h0 with ⟨h1, h2⟩ | ⟨l0, h1, h2, _⟩
  · rw [h2]
    rw [h1] at hg
    refine RawC.walk (H := hint44 Try.prog) ir44 Try.func44 rfl rfl rfl ?_
    unfold ir44
    repeat' (first
      | with_reducible (first | refine Rd.p ?_ | refine zE ?_ | refine zE0 ?_)
      | with_reducible (first | refine zI fun y hy => ?_ | refine zL ?_ | refine zS ?_ | refine zA fun _ => ?_ | refine zV ?_ | refine zC ?_ | refine zG ?_ | refine zU ?_ | refine zG0 ?_ | refine zU0 ?_ | refine zF ?_)
      | ((with_reducible refine acall_id ?_); refine ACall.val hck rfl rfl ?_)
      | ((with_reducible refine acall_id ?_); refine ACall.val hg rfl rfl ?_)
      | with_reducible (first | refine zX ?_ | refine zD fun _ => ?_ | refine zD0 ?_ | refine zN ?_ | refine zF0 ?_ | refine zX0 ?_ | refine z1 ?_ | refine z2 ?_ | refine z3 ?_ | refine z4 ?_ | refine z5 ?_ | refine z6 ?_ | refine z7 ?_ | refine z8 ?_ | refine y1 ?_ | refine y2 ?_ | refine y3 ?_ | refine y4 ?_ | refine y5 ?_ | refine y6 ?_ | refine y7 ?_ | refine y8 ?_ | refine Rt.p (fun _ => ?_) fun _ => ?_)
      | ((with_reducible apply w_ixM); (focus exact rfl); (focus exact rfl); case' hk => intro y hy) | ((with_reducible (first | apply w_val | apply q_ends)); (focus exact rfl)))
    · rfl
    · cases hy
  · have hbe : bestB gs rs = bestL (prS gs rs) (okL gs rs) := bestB_eq gs rs (by have := hp.r12; omega)
    have hbp : bestL (prS gs rs) (okL gs rs) = (some l0, prS gs rs l0) := by
      rw [← hbe]
      have : bestP gs rs = if (bestB gs rs).1 = none then (none, 0, 12) else ((bestB gs rs).1, (bestB gs rs).2, 0) := by rw [bestP, if_pos h0]
      rw [this] at h2
      split at h2
      · cases h2
      · have e1 := congrArg Prod.fst h2
        have e2 := congrArg (·.2.1) h2
        exact Prod.ext e1 e2
    have hpos : 0 < (okL gs rs).length := List.length_pos_of_mem h1
    rw [h2]
    dsimp only [optV]
    have hall : ∀ x ∈ okL gs rs, isPerm gs.length x := fun x hx => perm_of (List.mem_filter.1 hx).1
    generalize okL gs rs = ls at *
    refine RawC.walk (H := hint44 Try.prog) ir44 Try.func44 rfl rfl rfl ?_
    unfold ir44
    repeat' (first
      | with_reducible (first | refine Rd.p ?_ | refine zE ?_ | refine zE0 ?_)
      | with_reducible (first | refine zI fun y hy => ?_ | refine zL ?_ | refine zS ?_ | refine zA fun _ => ?_ | refine zV ?_ | refine zC ?_ | refine zG ?_ | refine zU ?_ | refine zG0 ?_ | refine zU0 ?_ | refine zF ?_)
      | ((with_reducible refine acall_id ?_); refine ACall.val hck rfl rfl ?_)
      | ((with_reducible refine acall_id ?_); refine ACall.val hg rfl rfl ?_)
      | with_reducible (first | refine zX ?_ | refine zD fun _ => ?_ | refine zD0 ?_ | refine zN ?_ | refine zF0 ?_ | refine zX0 ?_ | refine z1 ?_ | refine z2 ?_ | refine z3 ?_ | refine z4 ?_ | refine z5 ?_ | refine z6 ?_ | refine z7 ?_ | refine z8 ?_ | refine y1 ?_ | refine y2 ?_ | refine y3 ?_ | refine y4 ?_ | refine y5 ?_ | refine y6 ?_ | refine y7 ?_ | refine y8 ?_ | refine Rt.p (fun _ => ?_) fun _ => ?_)
      | ((with_reducible apply w_ixM); (focus exact rfl); (focus exact rfl); case' hk => intro y hy) | ((with_reducible (first | apply w_val | apply q_ends)); (focus exact rfl)))
    have hB := fun l (hl : l ∈ ls) => rBroken_c gs rs l hp.r (hall l hl) (by omega) (by omega)
    refine w_loopK [1, 6] [1] (fun x : List (List Int) × List (List Int) × List Int × Int => ls = x.1 ++ x.2.1 ∧ (x.1 = [] ∨ bestL (prS gs rs) x.1 = (some x.2.2.1, x.2.2.2))) (fun x => x.2.1.length)
      (fun x => [(9, .int .i64 x.1.length), (7, .slc 1 (iR x.2.2.1) .non), (8, .int .i64 x.2.2.2)]) (fun _ => []) ([], ls, y, 0) ⟨rfl, .inl rfl⟩ ⟨rfl, rfl, rfl, trivial⟩ trivial ?_
    rintro ⟨pre, post, b, c⟩ ⟨hl, hb⟩ e σ
    dsimp only at hl hb ⊢
    have hlen := congrArg List.length hl
    cases post with
    | nil =>
      simp only [List.append_nil, List.length_append, List.length_nil] at hlen
      rw [List.append_nil] at hl
      have hb2 : bestL (prS gs rs) pre = (some b, c) := hb.resolve_left fun h => by rw [h] at hlen; simp at hlen; rw [hlen] at hpos; simp at hpos
      rw [← hl, hbp] at hb2
      cases hb2
      repeat' (first
        | with_reducible (first | refine Rd.p ?_ | refine zE ?_ | refine zE0 ?_)
        | with_reducible (first | refine zI fun y hy => ?_ | refine zL ?_ | refine zS ?_ | refine zA fun _ => ?_ | refine zV ?_ | refine zC ?_ | refine zG ?_ | refine zU ?_ | refine zG0 ?_ | refine zU0 ?_ | refine zF ?_)
        | with_reducible (first | refine zX ?_ | refine zD fun _ => ?_ | refine zD0 ?_ | refine zN ?_ | refine zF0 ?_ | refine zX0 ?_ | refine z1 ?_ | refine z2 ?_ | refine z3 ?_ | refine z4 ?_ | refine z5 ?_ | refine z6 ?_ | refine z7 ?_ | refine z8 ?_ | refine y1 ?_ | refine y2 ?_ | refine y3 ?_ | refine y4 ?_ | refine y5 ?_ | refine y6 ?_ | refine y7 ?_ | refine y8 ?_ | refine Rt.p (fun _ => ?_) fun _ => ?_)
        | ((with_reducible apply w_ixM); (focus exact rfl); (focus exact rfl); case' hk => intro y hy) | ((with_reducible (first | apply w_val | apply q_ends)); (focus exact rfl)))
      rfl
    | cons l post =>
      simp only [List.length_append, List.length_cons] at hlen
      have hB1 := hB l (by rw [hl]; simp)
      have hsn : bestL (prS gs rs) (pre ++ [l]) = stepP (prS gs rs) (bestL (prS gs rs) pre) l := by rw [bestL, List.foldl_append]; rfl
      cases pre with
      | nil =>
        have hz : ([] : List (List Int)).length = 0 := rfl
        have h5 : bestL (prS gs rs) ([] ++ [l]) = (some l, prS gs rs l) := by rw [hsn, bestL_nil, stepP, if_pos (.inl rfl)]
        repeat' (first
          | with_reducible (first | refine Rd.p ?_ | refine zE ?_ | refine zE0 ?_)
          | (refine w_ixP hl rfl rfl ?_)
          | with_reducible (first | refine zI fun y hy => ?_ | refine zL ?_ | refine zS ?_ | refine zA fun _ => ?_ | refine zV ?_ | refine zC ?_ | refine zG ?_ | refine zU ?_ | refine zG0 ?_ | refine zU0 ?_ | refine zF ?_)
          | ((with_reducible refine acall_id ?_); refine ACall.val hB1 rfl rfl ?_)
          | with_reducible (first | refine zX ?_ | refine zD fun _ => ?_ | refine zD0 ?_ | refine zN ?_ | refine zF0 ?_ | refine zX0 ?_ | refine z1 ?_ | refine z2 ?_ | refine z3 ?_ | refine z4 ?_ | refine z5 ?_ | refine z6 ?_ | refine z7 ?_ | refine z8 ?_ | refine y1 ?_ | refine y2 ?_ | refine y3 ?_ | refine y4 ?_ | refine y5 ?_ | refine y6 ?_ | refine y7 ?_ | refine y8 ?_ | refine Rt.p (fun _ => ?_) fun _ => ?_)
          | ((with_reducible apply w_ixM); (focus exact rfl); (focus exact rfl); case' hk => intro y hy) | ((with_reducible (first | apply w_val | apply q_ends)); (focus exact rfl)))
        refine zQ ([l], post, l, prS gs rs l) ?_ ?_
        · exact ⟨by rw [hl]; simp, .inr h5⟩
        · simp
      | cons p0 pre =>
        have hb2 := hb.resolve_left (by simp)
        rw [hb2] at hsn
        have hpl : (p0 :: pre).length = pre.length + 1 := rfl
        repeat' (first
          | with_reducible (first | refine Rd.p ?_ | refine zE ?_ | refine zE0 ?_)
          | (refine w_ixP hl rfl rfl ?_)
          | with_reducible (first | refine zI fun y hy => ?_ | refine zL ?_ | refine zS ?_ | refine zA fun _ => ?_ | refine zV ?_ | refine zC ?_ | refine zG ?_ | refine zU ?_ | refine zG0 ?_ | refine zU0 ?_ | refine zF ?_)
          | ((with_reducible refine acall_id ?_); refine ACall.val hB1 rfl rfl ?_)
          | with_reducible (first | refine zX ?_ | refine zD fun _ => ?_ | refine zD0 ?_ | refine zN ?_ | refine zF0 ?_ | refine zX0 ?_ | refine z1 ?_ | refine z2 ?_ | refine z3 ?_ | refine z4 ?_ | refine z5 ?_ | refine z6 ?_ | refine z7 ?_ | refine z8 ?_ | refine y1 ?_ | refine y2 ?_ | refine y3 ?_ | refine y4 ?_ | refine y5 ?_ | refine y6 ?_ | refine y7 ?_ | refine y8 ?_ | refine Rt.p (fun _ => ?_) fun _ => ?_)
          | ((with_reducible apply w_ixM); (focus exact rfl); (focus exact rfl); case' hk => intro y hy) | ((with_reducible (first | apply w_val | apply q_ends)); (focus exact rfl)))
        · rename_i h6
          rw [stepP, if_pos (.inr h6)] at hsn
          refine zQ (p0 :: pre ++ [l], post, l, prS gs rs l) ?_ ?_
          · exact ⟨by rw [hl]; simp, .inr hsn⟩
          · simp
        · rename_i h6
          rw [stepP, if_neg (by simp; omega)] at hsn
          refine zQ (p0 :: pre ++ [l], post, b, c) ?_ ?_
          · exact ⟨by rw [hl]; simp, .inr hsn⟩
          · simp
end Go.Abs
