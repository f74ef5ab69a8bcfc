/- A part of the proofs of the laws of this seat: contracts of the functions that they reach, each proved of the program's form in Lean. No condition beyond those that each contract names. -/
import Derived.Test.YtmekfgjlcaonjaaK3
import Derived.Test.YtmekfgjlcaonjaaK2
import Derived.Test.YtmekfgjlcaonjaaK1
import Derived.Test.YtmekfgjlcaonjaaD1
import Derived.Test.YtmekfgjlcaonjaaC13
import Derived.Test.YtmekfgjlcaonjaaC12
import Derived.Test.YtmekfgjlcaonjaaC11
import Derived.Test.YtmekfgjlcaonjaaC10
import Derived.Test.YtmekfgjlcaonjaaC9
import Derived.Test.YtmekfgjlcaonjaaC8
import Derived.Test.YtmekfgjlcaonjaaC7
import Derived.Test.YtmekfgjlcaonjaaC5
import Derived.Test.YtmekfgjlcaonjaaC4
import Derived.Test.YtmekfgjlcaonjaaC2
import Derived.Test.YtmekfgjlcaonjaaC1
import Derived.Test.YtmekfgjlcaonjaaB
import Derived.Test.YtmekfgjlcaonjaaC3
import Derived.Test.YtmekfgjlcaonjaaD8
set_option linter.unusedVariables false
set_option linter.unusedSimpArgs false
set_option maxRecDepth 20000
set_option maxHeartbeats 4000000
namespace Go.Abs
open Go.Proofs
/-- slices.Clone[[]aloeswood/api.Link,aloeswood/api.Link] -/
def ir105 : IFn :=
  ⟨8, [(2, none)], (.seq (.ops [⟨(some 2), none, (.nil 4 2)⟩])
  (.seq (.seq (.ops [⟨(some 3), none, (.mov (.t 0))⟩,
    ⟨(some 4), none, (.nlq (.t 3))⟩])
  (.cnd (.t 4)
    (.seq (.ops [⟨(some 2), none, (.nil 4 2)⟩])
    .ret)
    .skip))
  (.seq (.ops [⟨(some 5), none, (.bsl 4 [] [])⟩,
    ⟨(some 6), none, (.mov (.t 0))⟩,
    ⟨(some 7), none, (.app 4 32 (.t 5) (.t 6) 2)⟩,
    ⟨(some 2), none, (.mov (.t 7))⟩])
  .ret)))⟩
def hint105 (P : Program) : Hint := { site := [(7, 2)], nils := [(2, 4)], frz := [], mve := [], wr := [], nlq := [4] }
/-- aloeswood/store.Add -/
def ir55 : IFn :=
  ⟨28, [(4, some (4, true)), (5, none)], (.seq (.ops [⟨(some 2), none, (.box 4 (.t 0))⟩,
    ⟨(some 3), none, (.box 4 (.t 1))⟩,
    ⟨(some 4), none, (.new [(.int .i64 0), (.int .i64 0), (.int .i64 0), .nsl])⟩,
    ⟨(some 5), none, (.mov (.k (.int .i64 0)))⟩])
  (.seq (.seq (.ops [⟨(some 8), none, (.ld 4 true (.t 2))⟩,
    ⟨(some 9), none, (.callF 26 [(.t 8)])⟩,
    ⟨(some 6), none, (.mov (.t 9))⟩])
  (.seq (.ops [⟨(some 10), none, (.mov (.t 6))⟩,
    ⟨(some 11), none, (.bin .neq (.t 10) (.k (.int .i64 0)))⟩])
  (.cnd (.t 11)
    (.seq (.ops [⟨(some 12), none, (.bld [(.int .i64 0), (.int .i64 0), (.int .i64 0), .nsl] [])⟩,
      ⟨(some 13), none, (.mov (.t 6))⟩,
      ⟨none, none, (.st 4 (.t 4) (.t 12))⟩,
      ⟨(some 5), none, (.mov (.t 13))⟩])
    .ret)
    .skip)))
  (.seq (.ops [⟨(some 14), none, (.flA 3 (.t 2))⟩,
    ⟨(some 15), none, (.ld 1 false (.t 14))⟩,
    ⟨(some 17), none, (.ld 4 true (.t 3))⟩,
    ⟨(some 18), none, (.bsl 4 [[(.int .i64 0), (.int .i64 0), (.int .i64 0), (.int .i64 0)]] [(0, (.t 17))])⟩,
    ⟨(some 16), none, (.callF 105 [(.t 15)])⟩,
    ⟨none, none, (.chk 4 true (.t 3) 17)⟩,
    ⟨(some 19), none, (.app 4 32 (.t 16) (.t 18) 19)⟩,
    ⟨(some 20), none, (.flA 3 (.t 2))⟩,
    ⟨none, none, (.st 1 (.t 20) (.t 19))⟩])
  (.seq (.seq (.ops [⟨(some 21), none, (.ld 4 true (.t 2))⟩,
    ⟨(some 22), none, (.callF 26 [(.t 21)])⟩,
    ⟨(some 7), none, (.mov (.t 22))⟩])
  (.seq (.ops [⟨(some 23), none, (.mov (.t 7))⟩,
    ⟨(some 24), none, (.bin .neq (.t 23) (.k (.int .i64 0)))⟩])
  (.cnd (.t 24)
    (.seq (.ops [⟨(some 25), none, (.bld [(.int .i64 0), (.int .i64 0), (.int .i64 0), .nsl] [])⟩,
      ⟨(some 26), none, (.mov (.t 7))⟩,
      ⟨none, none, (.st 4 (.t 4) (.t 25))⟩,
      ⟨(some 5), none, (.mov (.t 26))⟩])
    .ret)
    .skip)))
  (.seq (.ops [⟨(some 27), none, (.ld 4 true (.t 2))⟩,
    ⟨none, none, (.st 4 (.t 4) (.t 27))⟩,
    ⟨(some 5), none, (.mov (.k (.int .i64 0)))⟩])
  .ret)))))⟩
def hint55 (P : Program) : Hint := {}
/-- aloeswood/aloeswoodref09.Add -/
def ir56 : IFn :=
  ⟨29, [(4, some (4, true)), (5, none)], (.seq (.ops [⟨(some 2), none, (.box 4 (.t 0))⟩,
    ⟨(some 3), none, (.box 4 (.t 1))⟩,
    ⟨(some 4), none, (.new [(.int .i64 0), (.int .i64 0), (.int .i64 0), .nsl])⟩,
    ⟨(some 5), none, (.mov (.k (.int .i64 0)))⟩])
  (.seq (.seq (.ops [⟨(some 8), none, (.ld 4 true (.t 2))⟩,
    ⟨(some 9), none, (.callF 27 [(.t 8)])⟩,
    ⟨(some 6), none, (.mov (.t 9))⟩])
  (.seq (.ops [⟨(some 10), none, (.mov (.t 6))⟩,
    ⟨(some 11), none, (.bin .neq (.t 10) (.k (.int .i64 0)))⟩])
  (.cnd (.t 11)
    (.seq (.ops [⟨(some 12), none, (.bld [(.int .i64 0), (.int .i64 0), (.int .i64 0), .nsl] [])⟩,
      ⟨(some 13), none, (.mov (.t 6))⟩,
      ⟨none, none, (.st 4 (.t 4) (.t 12))⟩,
      ⟨(some 5), none, (.mov (.t 13))⟩])
    .ret)
    .skip)))
  (.seq (.ops [⟨(some 14), none, (.bsl 4 [] [])⟩,
    ⟨(some 15), none, (.flA 3 (.t 2))⟩,
    ⟨(some 16), none, (.ld 1 false (.t 15))⟩,
    ⟨(some 18), none, (.ld 4 true (.t 3))⟩,
    ⟨(some 19), none, (.bsl 4 [[(.int .i64 0), (.int .i64 0), (.int .i64 0), (.int .i64 0)]] [(0, (.t 18))])⟩,
    ⟨(some 17), none, (.app 4 32 (.t 14) (.t 16) 17)⟩,
    ⟨none, none, (.chk 4 true (.t 3) 18)⟩,
    ⟨(some 20), none, (.app 4 32 (.t 17) (.t 19) 20)⟩,
    ⟨(some 21), none, (.flA 3 (.t 2))⟩,
    ⟨none, none, (.st 1 (.t 21) (.t 20))⟩])
  (.seq (.seq (.ops [⟨(some 22), none, (.ld 4 true (.t 2))⟩,
    ⟨(some 23), none, (.callF 27 [(.t 22)])⟩,
    ⟨(some 7), none, (.mov (.t 23))⟩])
  (.seq (.ops [⟨(some 24), none, (.mov (.t 7))⟩,
    ⟨(some 25), none, (.bin .neq (.t 24) (.k (.int .i64 0)))⟩])
  (.cnd (.t 25)
    (.seq (.ops [⟨(some 26), none, (.bld [(.int .i64 0), (.int .i64 0), (.int .i64 0), .nsl] [])⟩,
      ⟨(some 27), none, (.mov (.t 7))⟩,
      ⟨none, none, (.st 4 (.t 4) (.t 26))⟩,
      ⟨(some 5), none, (.mov (.t 27))⟩])
    .ret)
    .skip)))
  (.seq (.ops [⟨(some 28), none, (.ld 4 true (.t 2))⟩,
    ⟨none, none, (.st 4 (.t 4) (.t 28))⟩,
    ⟨(some 5), none, (.mov (.k (.int .i64 0)))⟩])
  .ret)))))⟩
def hint56 (P : Program) : Hint := {}
def addC (c : Chn) (l : Lnk) : Chn := ⟨c.maker, c.lo, c.hi, c.ls ++ [l]⟩
def addE (c : Chn) (l : Lnk) : Int := if chainE c = 0 then chainE (addC c l) else chainE c
def addV (c : Chn) (l : Lnk) : AV := if addE c l = 0 then cA (addC c l) else .agg [.int .i64 0, .int .i64 0, .int .i64 0, .nsl]
theorem cloneL_c (l : List Lnk) (h : l.length ≤ 1000) : RawC Try.prog 105 [.slc 4 (lR l) .non] (sg []) (SR (fun (g : Nat) v => v = .slc 4 (lR l) (.own 2 g)) (fun g => [(2, (g, .row []))])) := by
  cases l with
  | nil =>
    refine RawC.walk (H := hint105 Try.prog) ir105 Try.func105 rfl rfl rfl ?_
    unfold ir105
    repeat' (first
      | with_reducible (first | refine Rd.p ?_ | refine w_alt ?_ ?_ | refine zO ?_ | refine zE0 ?_)
      | with_reducible (first | refine zI fun y hy => ?_ | refine zL ?_ | refine zS ?_ | refine zA fun _ => ?_ | refine zV ?_ | refine zC ?_ | refine zG ?_ | refine zU ?_ | refine zG0 ?_ | refine zU0 ?_ | refine zF ?_)
      | with_reducible (first | refine zX ?_ | refine zD fun _ => ?_ | refine zD0 ?_ | refine zN ?_ | refine zF0 ?_ | refine zX0 ?_ | refine z1 ?_ | refine z2 ?_ | refine z3 ?_ | refine z4 ?_ | refine z5 ?_ | refine z6 ?_ | refine z7 ?_ | refine z8 ?_ | refine y1 ?_ | refine y2 ?_ | refine y3 ?_ | refine y4 ?_ | refine y5 ?_ | refine y6 ?_ | refine y7 ?_ | refine y8 ?_ | refine Rt.p (fun _ => ?_) fun _ => ?_)
      | ((with_reducible apply w_ixM); (focus exact rfl); (focus exact rfl); case' hk => intro y hy) | ((with_reducible (first | apply w_val | apply q_ends)); (focus exact rfl)))
    all_goals exact ⟨_, rfl, rfl, trivial⟩
  | cons y l =>
    refine RawC.walk (H := hint105 Try.prog) ir105 Try.func105 rfl rfl rfl ?_
    unfold ir105
    repeat' (first
      | with_reducible (first | refine Rd.p ?_ | refine w_alt ?_ ?_ | refine zO ?_ | refine zE0 ?_)
      | with_reducible (first | refine zI fun y hy => ?_ | refine zL ?_ | refine zS ?_ | refine zA fun _ => ?_ | refine zV ?_ | refine zC ?_ | refine zG ?_ | refine zU ?_ | refine zG0 ?_ | refine zU0 ?_ | refine zF ?_)
      | with_reducible (first | refine zX ?_ | refine zD fun _ => ?_ | refine zD0 ?_ | refine zN ?_ | refine zF0 ?_ | refine zX0 ?_ | refine z1 ?_ | refine z2 ?_ | refine z3 ?_ | refine z4 ?_ | refine z5 ?_ | refine z6 ?_ | refine z7 ?_ | refine z8 ?_ | refine y1 ?_ | refine y2 ?_ | refine y3 ?_ | refine y4 ?_ | refine y5 ?_ | refine y6 ?_ | refine y7 ?_ | refine y8 ?_ | refine Rt.p (fun _ => ?_) fun _ => ?_)
      | ((with_reducible apply w_ixM); (focus exact rfl); (focus exact rfl); case' hk => intro y hy) | ((with_reducible (first | apply w_val | apply q_ends)); (focus exact rfl)))
    all_goals exact ⟨_, rfl, rfl, trivial⟩
theorem addC_len (c : Chn) (l : Lnk) : (addC c l).ls.length = c.ls.length + 1 := by simp [addC]
theorem Add_s (c : Chn) (l : Lnk) (hl : c.ls.length < 900) : Fn0 Try.prog 55 [cA c, .agg (Lnk.row l)] (fun v => v = .tup [addV c l, .int .i64 (addE c l)]) := by
  have hck := check_s c (by omega)
  have hck2 := check_s (addC c l) (by rw [addC_len]; omega)
  have hcl := cloneL_c c.ls (by omega)
  unfold addV addE
  by_cases he : chainE c = 0
  case neg =>
    rw [if_neg he, if_neg he]
    generalize chainE c = E at *
    refine RawC.walk (H := hint55 Try.prog) ir55 Try.func55 rfl rfl rfl ?_
    unfold ir55
    repeat' (first
      | with_reducible (first | refine Rd.p ?_ | refine w_alt ?_ ?_ | refine zE ?_ | refine zE0 ?_)
      | with_reducible (first | refine zI fun y hy => ?_ | refine zL ?_ | refine zS ?_ | refine zA fun _ => ?_ | refine zV ?_ | refine zC ?_ | refine zG ?_ | refine zU ?_ | refine zG0 ?_ | refine zU0 ?_ | refine zF ?_)
      | ((with_reducible refine acall_id ?_); refine ACall.val hck rfl rfl ?_)
      | with_reducible (first | refine zX ?_ | refine zD fun _ => ?_ | refine zD0 ?_ | refine zN ?_ | refine zF0 ?_ | refine zX0 ?_ | refine z1 ?_ | refine z2 ?_ | refine z3 ?_ | refine z4 ?_ | refine z5 ?_ | refine z6 ?_ | refine z7 ?_ | refine z8 ?_ | refine y1 ?_ | refine y2 ?_ | refine y3 ?_ | refine y4 ?_ | refine y5 ?_ | refine y6 ?_ | refine y7 ?_ | refine y8 ?_ | refine Rt.p (fun _ => ?_) fun _ => ?_)
      | ((with_reducible apply w_ixM); (focus exact rfl); (focus exact rfl); case' hk => intro y hy) | ((with_reducible (first | apply w_val | apply q_ends)); (focus exact rfl)))
    rfl
  rw [if_pos he]
  rw [he] at hck
  generalize chainE (addC c l) = E at *
  by_cases hE : E = 0
  · rw [if_pos hE]
    subst hE
    refine RawC.walk (H := hint55 Try.prog) ir55 Try.func55 rfl rfl rfl ?_
    unfold ir55
    repeat' (first
      | with_reducible (first | refine Rd.p ?_ | refine w_alt ?_ ?_ | refine zE ?_ | refine zE0 ?_)
      | with_reducible (first | refine zI fun y hy => ?_ | refine zL ?_ | refine zS ?_ | refine zA fun _ => ?_ | refine zV ?_ | refine zC ?_ | refine zG ?_ | refine zU ?_ | refine zG0 ?_ | refine zU0 ?_ | refine zF ?_)
      | ((with_reducible refine acall_id ?_); refine ACall.val hck rfl rfl ?_)
      | ((with_reducible refine acall_id ?_); refine ACall.liftS hcl [] (some 2) rfl rfl rfl trivial (fun _ => rfl) ?_; rintro g2 _ rfl)
      | ((with_reducible refine acall_id ?_); refine ACall.val hck2 rfl rfl ?_)
      | with_reducible (first | refine zX ?_ | refine zD fun _ => ?_ | refine zD0 ?_ | refine zN ?_ | refine zF0 ?_ | refine zX0 ?_ | refine z1 ?_ | refine z2 ?_ | refine z3 ?_ | refine z4 ?_ | refine z5 ?_ | refine z6 ?_ | refine z7 ?_ | refine z8 ?_ | refine y1 ?_ | refine y2 ?_ | refine y3 ?_ | refine y4 ?_ | refine y5 ?_ | refine y6 ?_ | refine y7 ?_ | refine y8 ?_ | refine Rt.p (fun _ => ?_) fun _ => ?_)
      | ((with_reducible apply w_ixM); (focus exact rfl); (focus exact rfl); case' hk => intro y hy) | ((with_reducible (first | apply w_val | apply q_ends)); (focus exact rfl)))
    rfl
  · rw [if_neg hE]
    refine RawC.walk (H := hint55 Try.prog) ir55 Try.func55 rfl rfl rfl ?_
    unfold ir55
    repeat' (first
      | with_reducible (first | refine Rd.p ?_ | refine w_alt ?_ ?_ | refine zE ?_ | refine zE0 ?_)
      | with_reducible (first | refine zI fun y hy => ?_ | refine zL ?_ | refine zS ?_ | refine zA fun _ => ?_ | refine zV ?_ | refine zC ?_ | refine zG ?_ | refine zU ?_ | refine zG0 ?_ | refine zU0 ?_ | refine zF ?_)
      | ((with_reducible refine acall_id ?_); refine ACall.val hck rfl rfl ?_)
      | ((with_reducible refine acall_id ?_); refine ACall.liftS hcl [] (some 2) rfl rfl rfl trivial (fun _ => rfl) ?_; rintro g2 _ rfl)
      | ((with_reducible refine acall_id ?_); refine ACall.val hck2 rfl rfl ?_)
      | with_reducible (first | refine zX ?_ | refine zD fun _ => ?_ | refine zD0 ?_ | refine zN ?_ | refine zF0 ?_ | refine zX0 ?_ | refine z1 ?_ | refine z2 ?_ | refine z3 ?_ | refine z4 ?_ | refine z5 ?_ | refine z6 ?_ | refine z7 ?_ | refine z8 ?_ | refine y1 ?_ | refine y2 ?_ | refine y3 ?_ | refine y4 ?_ | refine y5 ?_ | refine y6 ?_ | refine y7 ?_ | refine y8 ?_ | refine Rt.p (fun _ => ?_) fun _ => ?_)
      | ((with_reducible apply w_ixM); (focus exact rfl); (focus exact rfl); case' hk => intro y hy) | ((with_reducible (first | apply w_val | apply q_ends)); (focus exact rfl)))
    rfl
theorem rAdd_s (c : Chn) (l : Lnk) (hl : c.ls.length < 900) : Fn0 Try.prog 56 [cA c, .agg (Lnk.row l)] (fun v => v = .tup [addV c l, .int .i64 (addE c l)]) := by
  have hck := rcheck_s c (by omega)
  have hck2 := rcheck_s (addC c l) (by rw [addC_len]; omega)
  unfold addV addE
  by_cases he : chainE c = 0
  case neg =>
    rw [if_neg he, if_neg he]
    generalize chainE c = E at *
    refine RawC.walk (H := hint56 Try.prog) ir56 Try.func56 rfl rfl rfl ?_
    unfold ir56
    repeat' (first
      | with_reducible (first | refine Rd.p ?_ | refine w_alt ?_ ?_ | refine zE ?_ | refine zE0 ?_)
      | with_reducible (first | refine zI fun y hy => ?_ | refine zL ?_ | refine zS ?_ | refine zA fun _ => ?_ | refine zV ?_ | refine zC ?_ | refine zG ?_ | refine zU ?_ | refine zG0 ?_ | refine zU0 ?_ | refine zF ?_)
      | ((with_reducible refine acall_id ?_); refine ACall.val hck rfl rfl ?_)
      | with_reducible (first | refine zX ?_ | refine zD fun _ => ?_ | refine zD0 ?_ | refine zN ?_ | refine zF0 ?_ | refine zX0 ?_ | refine z1 ?_ | refine z2 ?_ | refine z3 ?_ | refine z4 ?_ | refine z5 ?_ | refine z6 ?_ | refine z7 ?_ | refine z8 ?_ | refine y1 ?_ | refine y2 ?_ | refine y3 ?_ | refine y4 ?_ | refine y5 ?_ | refine y6 ?_ | refine y7 ?_ | refine y8 ?_ | refine Rt.p (fun _ => ?_) fun _ => ?_)
      | ((with_reducible apply w_ixM); (focus exact rfl); (focus exact rfl); case' hk => intro y hy) | ((with_reducible (first | apply w_val | apply q_ends)); (focus exact rfl)))
    rfl
  rw [if_pos he]
  rw [he] at hck
  generalize chainE (addC c l) = E at *
  by_cases hE : E = 0
  · rw [if_pos hE]
    subst hE
    refine RawC.walk (H := hint56 Try.prog) ir56 Try.func56 rfl rfl rfl ?_
    unfold ir56
    repeat' (first
      | with_reducible (first | refine Rd.p ?_ | refine w_alt ?_ ?_ | refine zE ?_ | refine zE0 ?_)
      | with_reducible (first | refine zI fun y hy => ?_ | refine zL ?_ | refine zS ?_ | refine zA fun _ => ?_ | refine zV ?_ | refine zC ?_ | refine zG ?_ | refine zU ?_ | refine zG0 ?_ | refine zU0 ?_ | refine zF ?_)
      | ((with_reducible refine acall_id ?_); refine ACall.val hck rfl rfl ?_)
      | ((with_reducible refine acall_id ?_); refine ACall.val hck2 rfl rfl ?_)
      | with_reducible (first | refine zX ?_ | refine zD fun _ => ?_ | refine zD0 ?_ | refine zN ?_ | refine zF0 ?_ | refine zX0 ?_ | refine z1 ?_ | refine z2 ?_ | refine z3 ?_ | refine z4 ?_ | refine z5 ?_ | refine z6 ?_ | refine z7 ?_ | refine z8 ?_ | refine y1 ?_ | refine y2 ?_ | refine y3 ?_ | refine y4 ?_ | refine y5 ?_ | refine y6 ?_ | refine y7 ?_ | refine y8 ?_ | refine Rt.p (fun _ => ?_) fun _ => ?_)
      | ((with_reducible apply w_ixM); (focus exact rfl); (focus exact rfl); case' hk => intro y hy) | ((with_reducible (first | apply w_val | apply q_ends)); (focus exact rfl)))
    rfl
  · rw [if_neg hE]
    refine RawC.walk (H := hint56 Try.prog) ir56 Try.func56 rfl rfl rfl ?_
    unfold ir56
    repeat' (first
      | with_reducible (first | refine Rd.p ?_ | refine w_alt ?_ ?_ | refine zE ?_ | refine zE0 ?_)
      | with_reducible (first | refine zI fun y hy => ?_ | refine zL ?_ | refine zS ?_ | refine zA fun _ => ?_ | refine zV ?_ | refine zC ?_ | refine zG ?_ | refine zU ?_ | refine zG0 ?_ | refine zU0 ?_ | refine zF ?_)
      | ((with_reducible refine acall_id ?_); refine ACall.val hck rfl rfl ?_)
      | ((with_reducible refine acall_id ?_); refine ACall.val hck2 rfl rfl ?_)
      | with_reducible (first | refine zX ?_ | refine zD fun _ => ?_ | refine zD0 ?_ | refine zN ?_ | refine zF0 ?_ | refine zX0 ?_ | refine z1 ?_ | refine z2 ?_ | refine z3 ?_ | refine z4 ?_ | refine z5 ?_ | refine z6 ?_ | refine z7 ?_ | refine z8 ?_ | refine y1 ?_ | refine y2 ?_ | refine y3 ?_ | refine y4 ?_ | refine y5 ?_ | refine y6 ?_ | refine y7 ?_ | refine y8 ?_ | refine Rt.p (fun _ => ?_) fun _ => ?_)
      | ((with_reducible apply w_ixM); (focus exact rfl); (focus exact rfl); case' hk => intro y hy) | ((with_reducible (first | apply w_val | apply q_ends)); (focus exact rfl)))
    rfl
end Go.Abs
