/- A part of the proofs of the laws of this seat: contracts of the functions that they reach, each proved of the program's form in Lean. No condition beyond those that each contract names. -/
import Derived.Test.YtcgcciegekaliaaB0
import Derived.Test.YtcgcciegekaliaaB1
import Derived.Test.YtcgcciegekaliaaB2
import Derived.Test.YtcgcciegekaliaaB4
import Derived.Test.YtcgcciegekaliaaB5
import Derived.Test.YtcgcciegekaliaaB7
import Derived.Test.YtcgcciegekaliaaB8
import Derived.Test.YtcgcciegekaliaaB9
import Derived.Test.YtcgcciegekaliaaB13a
import Derived.Test.YtcgcciegekaliaaB14a
import Derived.Test.YtcgcciegekaliaaB15a
import Derived.Test.YtcgcciegekaliaaB16
import Derived.Test.YtcgcciegekaliaaB17
import Derived.Test.YtcgcciegekaliaaB18
import Derived.Test.YtcgcciegekaliaaB19a
import Derived.Test.YtcgcciegekaliaaB20
import Derived.Test.YtcgcciegekaliaaB34a
import Derived.Test.YtcgcciegekaliaaB37
import Derived.Test.YtcgcciegekaliaaB41
import Derived.Test.YtcgcciegekaliaaB41a
import Derived.Test.YtcgcciegekaliaaB48
import Derived.Test.YtcgcciegekaliaaB49
import Derived.Test.YtcgcciegekaliaaB51
set_option linter.unusedVariables false
set_option linter.unusedSimpArgs false
set_option maxRecDepth 20000
set_option maxHeartbeats 4000000
/-! ### SeatConflict -/
namespace Go.Abs
open Go.Proofs
/-- aloeswood/aloeswoodlaw08.only -/
def ir55 : IFn :=
  ⟨33, [(4, some (2, true))], (.seq (.ops [⟨(some 2), none, (.box 2 (.t 0))⟩,
    ⟨(some 4), none, (.new [.nsl, .nsl])⟩])
  (.seq (.ops [⟨(some 8), none, (.flA 0 (.t 2))⟩,
    ⟨(some 9), none, (.ld 1 false (.t 8))⟩,
    ⟨(some 10), none, (.bld [.nsl, .nsl] [(0, 1, (.t 9))])⟩,
    ⟨(some 5), none, (.new [.nsl, .nsl])⟩,
    ⟨none, none, (.st 2 (.t 5) (.t 10))⟩])
  (.seq (.seq (.ops [⟨(some 6), none, (.mov (.k (.int .i64 0)))⟩])
  (.blk 0 (.loop (.seq (.seq (.ops [⟨(some 11), none, (.mov (.t 6))⟩,
        ⟨(some 12), none, (.mov (.t 1))⟩,
        ⟨(some 13), none, (.len false (.t 12))⟩,
        ⟨(some 14), none, (.bin .lss (.t 11) (.t 13))⟩])
      (.cnd (.t 14)
        .skip
        (.exit 0)))
      (.seq (.blk 1 (.seq (.ops [⟨none, none, (.kil 7)⟩,
          ⟨(some 17), none, (.flA 1 (.t 2))⟩,
          ⟨(some 18), none, (.ld 1 false (.t 17))⟩,
          ⟨(some 19), none, (.mov (.t 1))⟩,
          ⟨(some 20), none, (.mov (.t 6))⟩,
          ⟨(some 21), none, (.ixA 1 (.t 19) (.t 20))⟩,
          ⟨(some 22), none, (.ld 1 false (.t 21))⟩,
          ⟨(some 23), none, (.ixA 4 (.t 18) (.t 22))⟩,
          ⟨(some 24), none, (.ld 4 true (.t 23))⟩,
          ⟨(some 7), none, (.new [(.int .i64 0), (.int .i64 0), (.int .i64 0), (.int .i64 0)])⟩,
          ⟨none, none, (.st 4 (.t 7) (.t 24))⟩])
        (.seq (.ops [⟨(some 25), none, (.flA 3 (.t 7))⟩,
          ⟨none, none, (.st 1 (.t 25) (.k (.int .i64 0)))⟩])
        (.ops [⟨(some 26), none, (.flA 1 (.t 5))⟩,
          ⟨(some 27), none, (.ld 1 false (.t 26))⟩,
          ⟨(some 28), none, (.ld 4 true (.t 7))⟩,
          ⟨(some 29), none, (.bsl 4 [[(.int .i64 0), (.int .i64 0), (.int .i64 0), (.int .i64 0)]] [(0, (.t 28))])⟩,
          ⟨(some 30), none, (.app 4 32 (.t 27) (.t 29) 30)⟩,
          ⟨(some 31), none, (.flA 1 (.t 5))⟩,
          ⟨none, none, (.st 1 (.t 31) (.t 30))⟩]))))
      (.ops [⟨(some 15), none, (.mov (.t 6))⟩,
        ⟨(some 16), none, (.bin .add (.t 15) (.k (.int .i64 1)))⟩,
        ⟨(some 6), none, (.mov (.t 16))⟩]))))))
  (.seq (.ops [⟨(some 32), none, (.ld 2 true (.t 5))⟩,
    ⟨none, none, (.st 2 (.t 4) (.t 32))⟩])
  .ret))))⟩
def hint55 (P : Program) : Hint := {}

/-- aloeswood/aloeswoodlaw08.SeatConflict -/
def ir11 : IFn :=
  ⟨135, [(2, none)], (.seq (.ops [⟨(some 2), none, (.mov (.k (.bool false)))⟩])
  (.seq (.ops [⟨(some 11), none, (.mov (.t 0))⟩,
    ⟨(some 12), none, (.callF 17 [(.t 11)])⟩,
    ⟨(some 13), none, (.callF 52 [(.t 12)])⟩,
    ⟨(some 3), none, (.new [.nsl, .nsl])⟩,
    ⟨none, none, (.st 2 (.t 3) (.t 13))⟩])
  (.seq (.ops [⟨(some 15), none, (.ld 2 true (.t 3))⟩,
    ⟨(some 16), none, (.callF 32 [(.t 15)])⟩,
    ⟨(some 14), none, (.mov (.t 16))⟩,
    ⟨(some 17), none, (.ext 0 (.t 14))⟩,
    ⟨(some 18), none, (.ext 1 (.t 14))⟩,
    ⟨(some 4), none, (.mov (.t 17))⟩,
    ⟨(some 5), none, (.mov (.t 18))⟩])
  (.seq (.ops [⟨(some 20), none, (.ld 2 true (.t 3))⟩,
    ⟨(some 21), none, (.callF 53 [(.t 20)])⟩,
    ⟨(some 19), none, (.mov (.t 21))⟩,
    ⟨(some 22), none, (.ext 0 (.t 19))⟩,
    ⟨(some 23), none, (.ext 1 (.t 19))⟩,
    ⟨(some 6), none, (.mov (.t 22))⟩,
    ⟨(some 7), none, (.mov (.t 23))⟩])
  (.seq (.seq (.ops [⟨(some 24), none, (.mov (.t 5))⟩,
    ⟨(some 25), none, (.bin .neq (.t 24) (.k (.int .i64 0)))⟩,
    ⟨(some 26), none, (.mov (.t 25))⟩,
    ⟨(some 27), (some (26, false)), (.mov (.t 7))⟩,
    ⟨(some 28), (some (26, false)), (.bin .eql (.t 27) (.k (.int .i64 0)))⟩,
    ⟨(some 29), (some (26, false)), (.mov (.t 4))⟩,
    ⟨(some 30), (some (26, false)), (.bin .eql (.t 29) (.k (.int .i64 0)))⟩,
    ⟨(some 31), (some (26, false)), (.eqn .bool true (.t 28) (.t 30))⟩,
    ⟨(some 32), none, (.pick (.t 26) (.k (.bool true)) (.t 31))⟩,
    ⟨(some 33), none, (.mov (.t 32))⟩,
    ⟨(some 34), (some (33, false)), (.mov (.t 7))⟩,
    ⟨(some 35), (some (33, false)), (.bin .neq (.t 34) (.k (.int .i64 0)))⟩,
    ⟨(some 36), (some (33, false)), (.mov (.t 35))⟩,
    ⟨(some 37), (some (36, true)), (.mov (.t 7))⟩,
    ⟨(some 38), (some (36, true)), (.bin .neq (.t 37) (.k (.int .i64 7)))⟩,
    ⟨(some 39), (some (33, false)), (.pick (.t 36) (.t 38) (.k (.bool false)))⟩,
    ⟨(some 40), none, (.pick (.t 33) (.k (.bool true)) (.t 39))⟩])
  (.cnd (.t 40)
    (.seq (.ops [⟨(some 2), none, (.mov (.k (.bool false)))⟩])
    .ret)
    .skip))
  (.seq (.seq (.ops [⟨(some 41), none, (.mov (.t 7))⟩,
    ⟨(some 42), none, (.bin .neq (.t 41) (.k (.int .i64 0)))⟩])
  (.cnd (.t 42)
    (.seq (.ops [⟨(some 43), none, (.callF 16 [])⟩,
      ⟨(some 2), none, (.mov (.t 43))⟩])
    .ret)
    .skip))
  (.seq (.seq (.ops [⟨(some 8), none, (.mov (.k (.int .i64 0)))⟩])
  (.blk 0 (.loop (.seq (.seq (.ops [⟨(some 44), none, (.mov (.t 8))⟩,
        ⟨(some 45), none, (.mov (.t 6))⟩,
        ⟨(some 46), none, (.len false (.t 45))⟩,
        ⟨(some 47), none, (.bin .lss (.t 44) (.t 46))⟩])
      (.cnd (.t 47)
        .skip
        (.exit 0)))
      (.seq (.blk 1 (.seq (.ops [⟨(some 50), none, (.mov (.t 6))⟩,
          ⟨(some 51), none, (.mov (.t 8))⟩,
          ⟨(some 52), none, (.ixA 1 (.t 50) (.t 51))⟩,
          ⟨(some 53), none, (.ld 1 false (.t 52))⟩,
          ⟨(some 54), none, (.bin .lss (.t 53) (.k (.int .i64 0)))⟩,
          ⟨(some 55), none, (.mov (.t 54))⟩,
          ⟨(some 56), (some (55, false)), (.mov (.t 6))⟩,
          ⟨(some 57), (some (55, false)), (.mov (.t 8))⟩,
          ⟨(some 58), (some (55, false)), (.ixA 1 (.t 56) (.t 57))⟩,
          ⟨(some 59), (some (55, false)), (.ld 1 false (.t 58))⟩,
          ⟨(some 60), (some (55, false)), (.flA 1 (.t 3))⟩,
          ⟨(some 61), (some (55, false)), (.ld 1 false (.t 60))⟩,
          ⟨(some 62), (some (55, false)), (.len false (.t 61))⟩,
          ⟨(some 63), (some (55, false)), (.bin .geq (.t 59) (.t 62))⟩,
          ⟨(some 64), none, (.pick (.t 55) (.k (.bool true)) (.t 63))⟩,
          ⟨(some 65), none, (.mov (.t 64))⟩,
          ⟨(some 66), (some (65, false)), (.flA 1 (.t 3))⟩,
          ⟨(some 67), (some (65, false)), (.ld 1 false (.t 66))⟩,
          ⟨(some 68), (some (65, false)), (.mov (.t 6))⟩,
          ⟨(some 69), (some (65, false)), (.mov (.t 8))⟩,
          ⟨(some 70), (some (65, false)), (.ixA 1 (.t 68) (.t 69))⟩,
          ⟨(some 71), (some (65, false)), (.ld 1 false (.t 70))⟩,
          ⟨(some 72), (some (65, false)), (.ixA 4 (.t 67) (.t 71))⟩,
          ⟨(some 73), (some (65, false)), (.flA 3 (.t 72))⟩,
          ⟨(some 74), (some (65, false)), (.ld 1 false (.t 73))⟩,
          ⟨(some 75), (some (65, false)), (.bin .neq (.t 74) (.k (.int .i64 0)))⟩,
          ⟨(some 76), none, (.pick (.t 65) (.k (.bool true)) (.t 75))⟩,
          ⟨(some 77), none, (.mov (.t 76))⟩,
          ⟨(some 78), (some (77, false)), (.mov (.t 8))⟩,
          ⟨(some 79), (some (77, false)), (.bin .gtr (.t 78) (.k (.int .i64 0)))⟩,
          ⟨(some 80), (some (77, false)), (.mov (.t 79))⟩,
          ⟨(some 81), (some (80, true)), (.mov (.t 6))⟩,
          ⟨(some 82), (some (80, true)), (.mov (.t 8))⟩,
          ⟨(some 83), (some (80, true)), (.ixA 1 (.t 81) (.t 82))⟩,
          ⟨(some 84), (some (80, true)), (.ld 1 false (.t 83))⟩,
          ⟨(some 85), (some (80, true)), (.mov (.t 6))⟩,
          ⟨(some 86), (some (80, true)), (.mov (.t 8))⟩,
          ⟨(some 87), (some (80, true)), (.bin .sub (.t 86) (.k (.int .i64 1)))⟩,
          ⟨(some 88), (some (80, true)), (.ixA 1 (.t 85) (.t 87))⟩,
          ⟨(some 89), (some (80, true)), (.ld 1 false (.t 88))⟩,
          ⟨(some 90), (some (80, true)), (.bin .leq (.t 84) (.t 89))⟩,
          ⟨(some 91), (some (77, false)), (.pick (.t 80) (.t 90) (.k (.bool false)))⟩,
          ⟨(some 92), none, (.pick (.t 77) (.k (.bool true)) (.t 91))⟩])
        (.cnd (.t 92)
          (.seq (.ops [⟨(some 2), none, (.mov (.k (.bool false)))⟩])
          .ret)
          .skip)))
      (.ops [⟨(some 48), none, (.mov (.t 8))⟩,
        ⟨(some 49), none, (.bin .add (.t 48) (.k (.int .i64 1)))⟩,
        ⟨(some 8), none, (.mov (.t 49))⟩]))))))
  (.seq (.seq (.ops [⟨(some 94), none, (.ld 2 true (.t 3))⟩,
    ⟨(some 95), none, (.mov (.t 6))⟩,
    ⟨(some 96), none, (.callF 55 [(.t 94), (.t 95)])⟩,
    ⟨(some 97), none, (.callF 32 [(.t 96)])⟩,
    ⟨(some 93), none, (.mov (.t 97))⟩,
    ⟨(some 98), none, (.ext 0 (.t 93))⟩,
    ⟨(some 99), none, (.ext 1 (.t 93))⟩,
    ⟨(some 4), none, (.mov (.t 98))⟩,
    ⟨(some 5), none, (.mov (.t 99))⟩])
  (.seq (.ops [⟨(some 100), none, (.mov (.t 4))⟩,
    ⟨(some 101), none, (.bin .neq (.t 100) (.k (.int .i64 0)))⟩,
    ⟨(some 102), none, (.mov (.t 101))⟩,
    ⟨(some 103), (some (102, false)), (.mov (.t 5))⟩,
    ⟨(some 104), (some (102, false)), (.bin .neq (.t 103) (.k (.int .i64 0)))⟩,
    ⟨(some 105), none, (.pick (.t 102) (.k (.bool true)) (.t 104))⟩])
  (.cnd (.t 105)
    (.seq (.ops [⟨(some 2), none, (.mov (.k (.bool false)))⟩])
    .ret)
    .skip)))
  (.seq (.seq (.ops [⟨(some 9), none, (.mov (.k (.int .i64 0)))⟩])
  (.blk 2 (.loop (.seq (.seq (.ops [⟨(some 106), none, (.mov (.t 9))⟩,
        ⟨(some 107), none, (.mov (.t 6))⟩,
        ⟨(some 108), none, (.len false (.t 107))⟩,
        ⟨(some 109), none, (.bin .lss (.t 106) (.t 108))⟩])
      (.cnd (.t 109)
        .skip
        (.exit 2)))
      (.seq (.blk 3 (.seq (.ops [⟨(some 112), none, (.mov (.t 6))⟩,
          ⟨(some 113), none, (.mov (.t 9))⟩,
          ⟨(some 114), none, (.slS 1 (.t 112) none (some (.t 113)) none)⟩,
          ⟨(some 116), none, (.mov (.t 6))⟩,
          ⟨(some 117), none, (.mov (.t 9))⟩,
          ⟨(some 118), none, (.bin .add (.t 117) (.k (.int .i64 1)))⟩,
          ⟨(some 119), none, (.slS 1 (.t 116) (some (.t 118)) none none)⟩,
          ⟨(some 115), none, (.callF 36 [(.t 114)])⟩,
          ⟨(some 120), none, (.app 1 8 (.t 115) (.t 119) 10)⟩,
          ⟨(some 10), none, (.mov (.t 120))⟩])
        (.seq (.ops [⟨(some 122), none, (.ld 2 true (.t 3))⟩,
          ⟨(some 123), none, (.mov (.t 10))⟩,
          ⟨(some 124), none, (.callF 55 [(.t 122), (.t 123)])⟩,
          ⟨(some 125), none, (.callF 32 [(.t 124)])⟩,
          ⟨(some 121), none, (.mov (.t 125))⟩,
          ⟨(some 126), none, (.ext 0 (.t 121))⟩,
          ⟨(some 127), none, (.ext 1 (.t 121))⟩,
          ⟨(some 4), none, (.mov (.t 126))⟩,
          ⟨(some 5), none, (.mov (.t 127))⟩])
        (.seq (.ops [⟨(some 128), none, (.mov (.t 4))⟩,
          ⟨(some 129), none, (.bin .eql (.t 128) (.k (.int .i64 0)))⟩,
          ⟨(some 130), none, (.mov (.t 129))⟩,
          ⟨(some 131), (some (130, false)), (.mov (.t 5))⟩,
          ⟨(some 132), (some (130, false)), (.bin .neq (.t 131) (.k (.int .i64 0)))⟩,
          ⟨(some 133), none, (.pick (.t 130) (.k (.bool true)) (.t 132))⟩])
        (.cnd (.t 133)
          (.seq (.ops [⟨(some 2), none, (.mov (.k (.bool false)))⟩])
          .ret)
          .skip)))))
      (.ops [⟨(some 110), none, (.mov (.t 9))⟩,
        ⟨(some 111), none, (.bin .add (.t 110) (.k (.int .i64 1)))⟩,
        ⟨(some 9), none, (.mov (.t 111))⟩]))))))
  (.seq (.ops [⟨(some 134), none, (.callF 16 [])⟩,
    ⟨(some 2), none, (.mov (.t 134))⟩])
  .ret))))))))))⟩
def hint11 (P : Program) : Hint := { site := [(120, 10)], nils := [], frz := [], mve := [], wr := [] }

/-- aloeswood/aloeswoodkit.Ints -/
def ir36 : IFn :=
  ⟨6, [(2, none)], (.seq (.ops [⟨(some 2), none, (.nil 1 2)⟩])
  (.seq (.ops [⟨(some 3), none, (.bsl 1 [] [])⟩,
    ⟨(some 4), none, (.mov (.t 0))⟩,
    ⟨(some 5), none, (.app 1 8 (.t 3) (.t 4) 2)⟩,
    ⟨(some 2), none, (.mov (.t 5))⟩])
  .ret))⟩
def hint36 (P : Program) : Hint := { site := [(5, 2)], nils := [(2, 1)], frz := [], mve := [], wr := [] }

/-- The copy, with the room behind it. -/
theorem intsO_c (l : List Int) (hl : l.length < 1000) : RawC Try.prog 36 [.slc 1 (iR l) .non] (sg []) (SR (fun (x : Nat) v => v = .slc 1 (iR l) (.own 2 x)) (fun x => [(2, (x, .row []))])) := by
  have h1 : (iR l).length = l.length := by simp
  refine RawC.walk (H := hint36 Try.prog) ir36 Try.func36 rfl rfl rfl ?_
  unfold ir36
  repeat' (first
    | with_reducible (first | refine Rd.p ?_ | refine zO ?_ | refine zE0 ?_)
    | with_reducible (first | refine zI fun y hy => ?_ | refine zL ?_ | refine zS ?_ | refine zA fun _ => ?_ | refine zV ?_ | refine zC ?_ | refine zG ?_ | refine zU ?_ | refine zG0 ?_ | refine zU0 ?_ | refine zF ?_)
    | with_reducible (first | refine zX ?_ | refine zD fun _ => ?_ | refine zD0 ?_ | refine zN ?_ | refine zF0 ?_ | refine zX0 ?_ | refine z1 ?_ | refine z2 ?_ | refine z3 ?_ | refine z4 ?_ | refine z5 ?_ | refine z6 ?_ | refine z7 ?_ | refine z8 ?_ | refine y1 ?_ | refine y2 ?_ | refine y3 ?_ | refine y4 ?_ | refine y5 ?_ | refine y6 ?_ | refine y7 ?_ | refine y8 ?_ | refine Rt.p (fun _ => ?_) fun _ => ?_)
    | ((with_reducible apply w_ixM); (focus exact rfl); (focus exact rfl); case' hk => intro y hy) | ((with_reducible (first | apply w_val | apply q_ends)); (focus exact rfl)))
  exact ⟨_, rfl, rfl, trivial⟩
/-- Some rules alone, all of which must be kept. -/
def w0R (r : Rule) : Rule := ⟨r.kind, r.a, r.b, 0⟩
def ruleAt (rs : List Rule) (i : Int) : Rule := rs.getD i.toNat ⟨0, 0, 0, 0⟩
def onlyR (rs : List Rule) (l : List Int) : List Rule := l.map fun i => w0R (ruleAt rs i)
def rulesO (rs : List Rule) (g : Nat) : AV := match rs with
  | [] => .nsl
  | _ :: _ => .slc 4 (rR rs) (.own 30 g)
def rulesOS (rs : List Rule) (g : Nat) : List (Nat × (Nat × Res)) := match rs with
  | [] => []
  | _ :: _ => [(30, (g, .row []))]
theorem only_c (gs : List Guest) (rs : List Rule) (l : List Int) (hl : l.length < 1000) (hr : rs.length < 1000) (hm : ∀ i ∈ l, 0 ≤ i ∧ i < rs.length) : Fn0 Try.prog 55 [pA gs rs, .slc 1 (iR l) .non] (fun v => v = pA gs (onlyR rs l)) := by
  refine RawC.walk (H := hint55 Try.prog) ir55 Try.func55 rfl rfl rfl ?_
  unfold ir55
  repeat' (first
    | with_reducible (first | refine Rd.p ?_ | refine zE ?_ | refine zE0 ?_)
    | with_reducible (first | refine zI fun y hy => ?_ | refine zL ?_ | refine zS ?_ | refine zA fun _ => ?_ | refine zV ?_ | refine zC ?_ | refine zG ?_ | refine zU ?_ | refine zG0 ?_ | refine zU0 ?_ | refine zF ?_)
    | with_reducible (first | refine zX ?_ | refine zD fun _ => ?_ | refine zD0 ?_ | refine zN ?_ | refine zF0 ?_ | refine zX0 ?_ | refine z1 ?_ | refine z2 ?_ | refine z3 ?_ | refine z4 ?_ | refine z5 ?_ | refine z6 ?_ | refine z7 ?_ | refine z8 ?_ | refine y1 ?_ | refine y2 ?_ | refine y3 ?_ | refine y4 ?_ | refine y5 ?_ | refine y6 ?_ | refine y7 ?_ | refine y8 ?_ | refine Rt.p (fun _ => ?_) fun _ => ?_)
    | ((with_reducible apply w_ixM); (focus exact rfl); (focus exact rfl); case' hk => intro y hy) | ((with_reducible (first | apply w_val | apply q_ends)); (focus exact rfl)))
  rename_i g2 g4 g5
  refine w_loopK [1, 2, 4, 5] [2, 4] (fun x : List Int × List Int × Nat => l = x.1 ++ x.2.1) (fun x => x.2.1.length) (fun x => [(6, .int .i64 x.1.length)])
    (fun x => (5, (g5, .row [.slc 5 (gR gs) .non, rulesO (onlyR rs x.1) x.2.2])) :: rulesOS (onlyR rs x.1) x.2.2) ([], l, 0) rfl ⟨rfl, trivial⟩ ⟨rfl, trivial⟩ ?_
  rintro ⟨pre, post, g30⟩ hp e σ
  dsimp only at hp ⊢
  have hlen := congrArg List.length hp
  cases post with
  | nil =>
    simp only [List.append_nil, List.length_append, List.length_nil] at hlen hp
    subst hp
    cases hre : onlyR rs l with
    | nil =>
      repeat' (first
        | with_reducible (first | refine Rd.p ?_ | refine zW (pA gs []) ?_ ?_)
        | with_reducible (first | refine zI fun y hy => ?_ | refine zL ?_ | refine zS ?_ | refine zA fun _ => ?_ | refine zV ?_ | refine zC ?_ | refine zG ?_ | refine zU ?_ | refine zG0 ?_ | refine zU0 ?_ | refine zF ?_)
        | with_reducible (first | refine zX ?_ | refine zD fun _ => ?_ | refine zD0 ?_ | refine zN ?_ | refine zF0 ?_ | refine zX0 ?_ | refine z1 ?_ | refine z2 ?_ | refine z3 ?_ | refine z4 ?_ | refine z5 ?_ | refine z6 ?_ | refine z7 ?_ | refine z8 ?_ | refine y1 ?_ | refine y2 ?_ | refine y3 ?_ | refine y4 ?_ | refine y5 ?_ | refine y6 ?_ | refine y7 ?_ | refine y8 ?_ | refine Rt.p (fun _ => ?_) fun _ => ?_)
        | ((with_reducible apply w_ixM); (focus exact rfl); (focus exact rfl); case' hk => intro y hy) | ((with_reducible (first | apply w_val | apply q_ends)); (focus exact rfl)))
      · exact Sub.agg (.cons (Sub.refl _) (.cons Sub.nil .nil))
      · rfl
    | cons r0 rr =>
      repeat' (first
        | with_reducible (first | refine Rd.p ?_ | refine zE ?_ | refine zE0 ?_)
        | with_reducible (first | refine zI fun y hy => ?_ | refine zL ?_ | refine zS ?_ | refine zA fun _ => ?_ | refine zV ?_ | refine zC ?_ | refine zG ?_ | refine zU ?_ | refine zG0 ?_ | refine zU0 ?_ | refine zF ?_)
        | with_reducible (first | refine zX ?_ | refine zD fun _ => ?_ | refine zD0 ?_ | refine zN ?_ | refine zF0 ?_ | refine zX0 ?_ | refine z1 ?_ | refine z2 ?_ | refine z3 ?_ | refine z4 ?_ | refine z5 ?_ | refine z6 ?_ | refine z7 ?_ | refine z8 ?_ | refine y1 ?_ | refine y2 ?_ | refine y3 ?_ | refine y4 ?_ | refine y5 ?_ | refine y6 ?_ | refine y7 ?_ | refine y8 ?_ | refine Rt.p (fun _ => ?_) fun _ => ?_)
        | ((with_reducible apply w_ixM); (focus exact rfl); (focus exact rfl); case' hk => intro y hy) | ((with_reducible (first | apply w_val | apply q_ends)); (focus exact rfl)))
      rfl
  | cons i post =>
    simp only [List.length_append, List.length_cons] at hlen
    have hi := hm i (by rw [hp]; simp)
    have hsp : rs = rs.take i.toNat ++ ruleAt rs i :: rs.drop (i.toNat + 1) := by
      have h : i.toNat < rs.length := by omega
      rw [ruleAt, List.getD_eq_getElem?_getD, List.getElem?_eq_getElem h, Option.getD_some, List.getElem_cons_drop, List.take_append_drop]
    have hix : (i : Int) = ((rs.take i.toNat).length : Int) := by rw [List.length_take]; omega
    have hS : onlyR rs (pre ++ [i]) = onlyR rs pre ++ [w0R (ruleAt rs i)] := by simp [onlyR]
    have hol : (onlyR rs pre).length = pre.length := by simp [onlyR]
    generalize onlyR rs pre = cur at hS hol ⊢
    cases cur with
    | nil =>
      repeat' (first
        | with_reducible (first | refine Rd.p ?_ | refine zE ?_ | refine zE0 ?_)
        | (first | refine w_ixP hp rfl rfl ?_ | refine w_ixP hsp rfl (congrArg (AV.int .i64) hix) ?_)
        | with_reducible (first | refine zI fun y hy => ?_ | refine zL ?_ | refine zS ?_ | refine zA fun _ => ?_ | refine zV ?_ | refine zC ?_ | refine zG ?_ | refine zU ?_ | refine zG0 ?_ | refine zU0 ?_ | refine zF ?_)
        | with_reducible (first | refine zX ?_ | refine zD fun _ => ?_ | refine zD0 ?_ | refine zN ?_ | refine zF0 ?_ | refine zX0 ?_ | refine z1 ?_ | refine z2 ?_ | refine z3 ?_ | refine z4 ?_ | refine z5 ?_ | refine z6 ?_ | refine z7 ?_ | refine z8 ?_ | refine y1 ?_ | refine y2 ?_ | refine y3 ?_ | refine y4 ?_ | refine y5 ?_ | refine y6 ?_ | refine y7 ?_ | refine y8 ?_ | refine Rt.p (fun _ => ?_) fun _ => ?_)
        | ((with_reducible apply w_ixM); (focus exact rfl); (focus exact rfl); case' hk => intro y hy) | ((with_reducible (first | apply w_val | apply q_ends)); (focus exact rfl)))
      refine q_loop (pre ++ [i], post, _) (by dsimp only; rw [hp]; simp) (by simp) (by repeat' (first | exact slots_nil | apply slots_cons | rfl | (rw [map_snoc]; rfl) | (rw [len_snoc]; rfl) | (rw [hS]; rfl) | (rw [hS, map_snoc]; rfl) | (refine int_eq ?_; (try dsimp only); omega) | (refine congrArg AV.bool ?_; simp_all; done))) (by dsimp only; rw [hS]; exact ⟨rfl, rfl, trivial⟩) (by repeat' (first | exact kept_nil | apply kept_cons | rfl)) (by repeat' (first | exact kept_nil | apply kept_cons | rfl))
    | cons r0 cur =>
      repeat' (first
        | with_reducible (first | refine Rd.p ?_ | refine zE ?_ | refine zE0 ?_)
        | (first | refine w_ixP hp rfl rfl ?_ | refine w_ixP hsp rfl (congrArg (AV.int .i64) hix) ?_)
        | with_reducible (first | refine zI fun y hy => ?_ | refine zL ?_ | refine zS ?_ | refine zA fun _ => ?_ | refine zV ?_ | refine zC ?_ | refine zG ?_ | refine zU ?_ | refine zG0 ?_ | refine zU0 ?_ | refine zF ?_)
        | with_reducible (first | refine zX ?_ | refine zD fun _ => ?_ | refine zD0 ?_ | refine zN ?_ | refine zF0 ?_ | refine zX0 ?_ | refine z1 ?_ | refine z2 ?_ | refine z3 ?_ | refine z4 ?_ | refine z5 ?_ | refine z6 ?_ | refine z7 ?_ | refine z8 ?_ | refine y1 ?_ | refine y2 ?_ | refine y3 ?_ | refine y4 ?_ | refine y5 ?_ | refine y6 ?_ | refine y7 ?_ | refine y8 ?_ | refine Rt.p (fun _ => ?_) fun _ => ?_)
        | ((with_reducible apply w_ixM); (focus exact rfl); (focus exact rfl); case' hk => intro y hy) | ((with_reducible (first | apply w_val | apply q_ends)); (focus exact rfl)))
      refine q_loop (pre ++ [i], post, _) (by dsimp only; rw [hp]; simp) (by simp) (by repeat' (first | exact slots_nil | apply slots_cons | rfl | (rw [map_snoc]; rfl) | (rw [len_snoc]; rfl) | (rw [hS]; rfl) | (rw [hS, map_snoc]; rfl) | (refine int_eq ?_; (try dsimp only); omega) | (refine congrArg AV.bool ?_; simp_all; done))) (by dsimp only; rw [hS]; exact ⟨congrArg (fun l => ((g5, Res.row [AV.slc 5 (gR gs) .non, AV.slc 4 l (.own 30 _)]) : Nat × Res)) (by simp [rR]; rfl), rfl, trivial⟩) (by repeat' (first | exact kept_nil | apply kept_cons | rfl)) (by repeat' (first | exact kept_nil | apply kept_cons | rfl))
theorem alw_only (gs : List Guest) (rs : List Rule) {l : List Int} (hm : ∀ i ∈ l, 0 ≤ i ∧ i < rs.length) (o : List Int) : alwB gs (onlyR rs l) o = !metB l (brkL gs rs o) := by
  rw [Bool.eq_iff_iff, alwB, onlyR, List.all_map, List.all_eq_true]
  unfold metB
  rw [Bool.not_eq_true', List.any_eq_false]
  have hb : ∀ i ∈ l, (i ∈ brkL gs rs o ↔ keepsB gs (atL o) (ruleAt rs i) = false) := by
    intro i hi
    have h := hm i hi
    have e : (brkL gs rs o) = ((List.range' 0 rs.length).filter fun k => ((rs[k - 0]?).map fun r : Rule => !keepsB gs (atL o) r).getD false).map fun (k : Nat) => (k : Int) := plcF_filter _ rs 0
    rw [e, List.mem_map]
    constructor
    · rintro ⟨k, hk, rfl⟩
      have hk2 := (List.mem_filter.1 hk).2
      simp only [Nat.sub_zero] at hk2
      have hlt : k < rs.length := by omega
      rw [List.getElem?_eq_getElem hlt] at hk2
      simp only [Option.map_some, Option.getD_some, Bool.not_eq_true'] at hk2
      rw [ruleAt, Int.toNat_natCast, List.getD_eq_getElem?_getD, List.getElem?_eq_getElem hlt]; exact hk2
    · intro hk
      have hlt : i.toNat < rs.length := by omega
      refine ⟨i.toNat, List.mem_filter.2 ⟨List.mem_range'_1.2 (by omega), ?_⟩, by omega⟩
      rw [ruleAt, List.getD_eq_getElem?_getD, List.getElem?_eq_getElem hlt] at hk
      simp only [Nat.sub_zero, List.getElem?_eq_getElem hlt, Option.map_some, Option.getD_some] at hk ⊢
      rw [hk]; rfl
  constructor
  · intro h i hi hd
    have h1 := h i hi
    have h2 := (hb i hi).1 (of_decide_eq_true hd)
    simp [w0R] at h1
    have : keepsB gs (atL o) ⟨(ruleAt rs i).kind, (ruleAt rs i).a, (ruleAt rs i).b, 0⟩ = keepsB gs (atL o) (ruleAt rs i) := rfl
    rw [this, h2] at h1; cases h1
  · intro h i hi
    have h1 := h i hi
    have h2 : keepsB gs (atL o) (ruleAt rs i) = true := by
      cases hk : keepsB gs (atL o) (ruleAt rs i) with
      | true => rfl
      | false => exact absurd (decide_eq_true ((hb i hi).2 hk)) h1
    have : keepsB gs (atL o) (w0R (ruleAt rs i)) = keepsB gs (atL o) (ruleAt rs i) := rfl
    simp [this, h2]
/-- Whether some order keeps these rules. -/
theorem only_none (gs : List Guest) (rs : List Rule) {l : List Int} (hm : ∀ i ∈ l, 0 ≤ i ∧ i < rs.length) : okL gs (onlyR rs l) = [] ↔ hitB gs rs l = true := by
  rw [hitB, List.all_eq_true, List.filter_eq_nil_iff]
  refine forall_congr' fun o => imp_congr_right fun ho => ?_
  rw [alw_only gs rs hm o]; simp
theorem only_ok {gs : List Guest} {rs : List Rule} {a b : Nat} (h : madeP gs rs a b) {l : List Int} (hm : ∀ i ∈ l, 0 ≤ i ∧ i < rs.length) : ∀ r ∈ onlyR rs l, rErr r gs.length = 0 := by
  intro r hr
  obtain ⟨i, hi, rfl⟩ := List.mem_map.1 hr
  have hb := hm i hi
  have hlt : i.toNat < rs.length := by omega
  have : ruleAt rs i ∈ rs := by rw [ruleAt, List.getD_eq_getElem?_getD, List.getElem?_eq_getElem hlt]; exact List.getElem_mem hlt
  exact rErr_w0 (h.r _ this)
theorem seatConflict_c (nums : List Int) (hn : nums.length < 2 ^ 62) : Fn0 Try.prog 11 [.slc 1 (iR nums) .non] (fun v => v = .bool true) := by
  refine RawC.walk (H := hint11 Try.prog) ir11 Try.func11 rfl rfl rfl ?_
  unfold ir11
  repeat' (first
    | with_reducible (first | refine Rd.p ?_ | refine zE ?_ | refine zE0 ?_)
    | with_reducible (first | refine zI fun y hy => ?_ | refine zL ?_ | refine zS ?_ | refine zA fun _ => ?_ | refine zV ?_ | refine zC ?_ | refine zG ?_ | refine zU ?_ | refine zG0 ?_ | refine zU0 ?_ | refine zF ?_)
    | ((with_reducible refine acall_id ?_); refine ACall.liftS (boxOf_s nums hn) [] (some 6) rfl rfl rfl trivial (fun _ => rfl) ?_; rintro ⟨gb, w⟩ _ rfl)
    | ((with_reducible refine acall_id ?_); refine ACall.box (strict_p _ _) rfl rfl rfl ?_; rintro _ _ ⟨gs, rs, rfl, hm⟩)
    | with_reducible (first | refine zX ?_ | refine zD fun _ => ?_ | refine zD0 ?_ | refine zN ?_ | refine zF0 ?_ | refine zX0 ?_ | refine z1 ?_ | refine z2 ?_ | refine z3 ?_ | refine z4 ?_ | refine z5 ?_ | refine z6 ?_ | refine z7 ?_ | refine z8 ?_ | refine y1 ?_ | refine y2 ?_ | refine y3 ?_ | refine y4 ?_ | refine y5 ?_ | refine y6 ?_ | refine y7 ?_ | refine y8 ?_ | refine Rt.p (fun _ => ?_) fun _ => ?_)
    | ((with_reducible apply w_ixM); (focus exact rfl); (focus exact rfl); case' hk => intro y hy) | ((with_reducible (first | apply w_val | apply q_ends)); (focus exact rfl)))
  have g1 := hm.g1
  have gn := hm.gn
  have rn := hm.rn
  have hsz : ∀ x ∈ gs, x.name.size ≤ 1000 := fun x hx => by have := (madeG_ok hm.g).2 x hx; omega
  have hk := pErr_made hm.g g1 (by omega) (by omega) hm.r
  have hC := Count_c gs rs (by omega) (by omega) hsz
  have hX := Conflict_c gs rs (by omega) (by omega) hsz
  rw [if_pos hk, hk] at hC
  have hin : ∀ x ∈ mustL rs, (0 ≤ x ∧ x < (rs.length : Int)) ∧ (ruleAt rs x).weight = 0 := by
    intro x hx
    have hb := plcF_mem _ rs 0 hx
    refine ⟨by omega, ?_⟩
    have e : mustL rs = ((List.range' 0 rs.length).filter fun k => ((rs[k - 0]?).map fun r : Rule => decide (r.weight = 0)).getD false).map fun (k : Nat) => (k : Int) := plcF_filter _ rs 0
    rw [e] at hx
    obtain ⟨k, hk, rfl⟩ := List.mem_map.1 hx
    have hk2 := (List.mem_filter.1 hk).2
    have hlt : k < rs.length := by omega
    simp only [Nat.sub_zero, List.getElem?_eq_getElem hlt, Option.map_some, Option.getD_some] at hk2
    rw [ruleAt, Int.toNat_natCast, List.getD_eq_getElem?_getD, List.getElem?_eq_getElem hlt]
    exact of_decide_eq_true hk2
  by_cases hok : okL gs rs = []
  case neg =>
    have hc : cfP gs rs = ([], 7) := by rw [cfP, if_pos hk, if_neg hok]
    have hN : 0 < (okL gs rs).length := List.length_pos_iff.2 hok
    rw [hc] at hX
    generalize (okL gs rs).length = N at hC hN
    repeat' (first
      | with_reducible (first | refine Rd.p ?_ | refine zE ?_ | refine zE0 ?_)
      | with_reducible (first | refine zI fun y hy => ?_ | refine zL ?_ | refine zS ?_ | refine zA fun _ => ?_ | refine zV ?_ | refine zC ?_ | refine zG ?_ | refine zU ?_ | refine zG0 ?_ | refine zU0 ?_ | refine zF ?_)
      | ((with_reducible refine acall_id ?_); refine ACall.val hC rfl rfl ?_)
      | ((with_reducible refine acall_id ?_); refine ACall.val hX rfl rfl ?_)
      | ((with_reducible refine acall_id ?_); refine ACall.val awake_c rfl rfl ?_)
      | with_reducible (first | refine zX ?_ | refine zD fun _ => ?_ | refine zD0 ?_ | refine zN ?_ | refine zF0 ?_ | refine zX0 ?_ | refine z1 ?_ | refine z2 ?_ | refine z3 ?_ | refine z4 ?_ | refine z5 ?_ | refine z6 ?_ | refine z7 ?_ | refine z8 ?_ | refine y1 ?_ | refine y2 ?_ | refine y3 ?_ | refine y4 ?_ | refine y5 ?_ | refine y6 ?_ | refine y7 ?_ | refine y8 ?_ | refine Rt.p (fun _ => ?_) fun _ => ?_)
      | ((with_reducible apply w_ixM); (focus exact rfl); (focus exact rfl); case' hk => intro y hy) | ((with_reducible (first | apply w_val | apply q_ends)); (focus exact rfl)))
    all_goals first | rfl | (exfalso; clear hC hX hsz hin; simp [negB] at *; done) | (exfalso; clear hC hX hsz hin; simp [negB] at *; omega)
  obtain ⟨l, hcnf, hc⟩ := cfP_cnf hk (by omega) hok
  rw [hc] at hX
  rw [hok] at hC
  have hll : l.length ≤ 10 := by
    have := hcnf.sub.length_le
    have h2 : (mustL rs).length ≤ rs.length := plcF_len (fun r => decide (r.weight = 0)) rs
    omega
  have hlin := fun x (hx : x ∈ l) => hin x (hcnf.sub.subset hx)
  have hsort := (mustL_lt rs (by omega)).sublist hcnf.sub
  have hhit := hcnf.hit
  have hbound := fun x (hx : x ∈ l) => (hlin x hx).1
  have hO := only_c gs rs l (by omega) (by omega) hbound
  have hC2 := Count_c gs (onlyR rs l) (by omega) (by simp [onlyR]; omega) hsz
  have hk2 : pErr gs (onlyR rs l) = 0 := pErr_made hm.g g1 (by omega) (by simp [onlyR]; omega) (only_ok hm hbound)
  rw [if_pos hk2, hk2, (only_none gs rs hbound).2 hhit] at hC2
  dsimp only at hX
  repeat' (first
    | with_reducible (first | refine Rd.p ?_ | refine zE ?_ | refine zE0 ?_)
    | with_reducible (first | refine zI fun y hy => ?_ | refine zL ?_ | refine zS ?_ | refine zA fun _ => ?_ | refine zV ?_ | refine zC ?_ | refine zG ?_ | refine zU ?_ | refine zG0 ?_ | refine zU0 ?_ | refine zF ?_)
    | ((with_reducible refine acall_id ?_); refine ACall.val hC rfl rfl ?_)
    | ((with_reducible refine acall_id ?_); refine ACall.val hX rfl rfl ?_)
    | ((with_reducible refine acall_id ?_); refine ACall.val awake_c rfl rfl ?_)
    | with_reducible (first | refine zX ?_ | refine zD fun _ => ?_ | refine zD0 ?_ | refine zN ?_ | refine zF0 ?_ | refine zX0 ?_ | refine z1 ?_ | refine z2 ?_ | refine z3 ?_ | refine z4 ?_ | refine z5 ?_ | refine z6 ?_ | refine z7 ?_ | refine z8 ?_ | refine y1 ?_ | refine y2 ?_ | refine y3 ?_ | refine y4 ?_ | refine y5 ?_ | refine y6 ?_ | refine y7 ?_ | refine y8 ?_ | refine Rt.p (fun _ => ?_) fun _ => ?_)
    | ((with_reducible apply w_ixM); (focus exact rfl); (focus exact rfl); case' hk => intro y hy) | ((with_reducible (first | apply w_val | apply q_ends)); (focus exact rfl)))
  · rename_i h; exact absurd h (by simp [negB])
  rename_i g3 _
  have hsp : ∀ x ∈ l, rs = rs.take x.toNat ++ ruleAt rs x :: rs.drop (x.toNat + 1) ∧ (x : Int) = ((rs.take x.toNat).length : Int) := by
    intro x hx
    have hb := hbound x hx
    have h : x.toNat < rs.length := by omega
    refine ⟨?_, by rw [List.length_take]; omega⟩
    rw [ruleAt, List.getD_eq_getElem?_getD, List.getElem?_eq_getElem h, Option.getD_some, List.getElem_cons_drop, List.take_append_drop]
  refine w_loopK [3, 6] [3] (fun x : List Int × List Int => l = x.1 ++ x.2) (fun x => x.2.length) (fun x => [(8, .int .i64 x.1.length)]) (fun _ => []) ([], l) rfl ⟨rfl, trivial⟩ trivial ?_
  rintro ⟨pre, post⟩ hp e σ
  dsimp only at hp ⊢
  have hlen := congrArg List.length hp
  cases post with
  | cons x post =>
    simp only [List.length_append, List.length_cons] at hlen
    have hx : x ∈ l := by rw [hp]; simp
    obtain ⟨hxb, hxw⟩ := hlin x hx
    obtain ⟨hs1, hs2⟩ := hsp x hx
    have hsx : ∀ y ∈ pre, y < x := by
      have := hsort
      rw [hp] at this
      intro y hy
      exact (List.pairwise_append.1 this).2.2 y hy x (by simp)
    repeat' (first
      | with_reducible (first | refine Rd.p ?_ | refine zE ?_ | refine zE0 ?_)
      | (first | refine w_ixP hp rfl rfl ?_ | refine w_ixP hs1 rfl (congrArg (AV.int .i64) hs2) ?_)
      | with_reducible (first | refine zI fun y hy => ?_ | refine zL ?_ | refine zS ?_ | refine zA fun _ => ?_ | refine zV ?_ | refine zC ?_ | refine zG ?_ | refine zU ?_ | refine zG0 ?_ | refine zU0 ?_ | refine zF ?_)
      | with_reducible (first | refine zX ?_ | refine zD fun _ => ?_ | refine zD0 ?_ | refine zN ?_ | refine zF0 ?_ | refine zX0 ?_ | refine z1 ?_ | refine z2 ?_ | refine z3 ?_ | refine z4 ?_ | refine z5 ?_ | refine z6 ?_ | refine z7 ?_ | refine z8 ?_ | refine y1 ?_ | refine y2 ?_ | refine y3 ?_ | refine y4 ?_ | refine y5 ?_ | refine y6 ?_ | refine y7 ?_ | refine y8 ?_ | refine Rt.p (fun _ => ?_) fun _ => ?_)
      | ((with_reducible apply w_ixM); (focus exact rfl); (focus exact rfl); case' hk => intro y hy) | ((with_reducible (first | apply w_val | apply q_ends)); (focus exact rfl)))
    · rename_i h1 y hy h2
      exfalso
      rw [hp, List.getElem?_append_left (by omega)] at hy
      have := hsx y (List.mem_of_getElem? hy)
      omega
    all_goals
      refine zQ (pre ++ [x], post) ?_ ?_
      · rw [hp]; simp
      · simp
  | nil =>
    simp only [List.append_nil, List.length_append, List.length_nil] at hlen hp
    subst hp
    clear hlen
    repeat' (first
      | with_reducible (first | refine Rd.p ?_ | refine zE ?_ | refine zE0 ?_)
      | with_reducible (first | refine zI fun y hy => ?_ | refine zL ?_ | refine zS ?_ | refine zA fun _ => ?_ | refine zV ?_ | refine zC ?_ | refine zG ?_ | refine zU ?_ | refine zG0 ?_ | refine zU0 ?_ | refine zF ?_)
      | ((with_reducible refine acall_id ?_); refine ACall.val hO rfl rfl ?_)
      | ((with_reducible refine acall_id ?_); refine ACall.val hC2 rfl rfl ?_)
      | with_reducible (first | refine zX ?_ | refine zD fun _ => ?_ | refine zD0 ?_ | refine zN ?_ | refine zF0 ?_ | refine zX0 ?_ | refine z1 ?_ | refine z2 ?_ | refine z3 ?_ | refine z4 ?_ | refine z5 ?_ | refine z6 ?_ | refine z7 ?_ | refine z8 ?_ | refine y1 ?_ | refine y2 ?_ | refine y3 ?_ | refine y4 ?_ | refine y5 ?_ | refine y6 ?_ | refine y7 ?_ | refine y8 ?_ | refine Rt.p (fun _ => ?_) fun _ => ?_)
      | ((with_reducible apply w_ixM); (focus exact rfl); (focus exact rfl); case' hk => intro y hy) | ((with_reducible (first | apply w_val | apply q_ends)); (focus exact rfl)))
    · rename_i h; exact absurd h (by simp)
    refine w_loopK [3, 6] [3] (fun x : List Int × List Int => l = x.1 ++ x.2) (fun x => x.2.length) (fun x => [(9, .int .i64 x.1.length)]) (fun _ => []) ([], l) rfl ⟨rfl, trivial⟩ trivial ?_
    rintro ⟨pre, post⟩ hp e1 σ1
    dsimp only at hp ⊢
    have hlen := congrArg List.length hp
    cases post with
    | nil =>
      simp only [List.append_nil, List.length_append, List.length_nil] at hlen hp
      repeat' (first
        | with_reducible (first | refine Rd.p ?_ | refine zE ?_ | refine zE0 ?_)
        | with_reducible (first | refine zI fun y hy => ?_ | refine zL ?_ | refine zS ?_ | refine zA fun _ => ?_ | refine zV ?_ | refine zC ?_ | refine zG ?_ | refine zU ?_ | refine zG0 ?_ | refine zU0 ?_ | refine zF ?_)
        | ((with_reducible refine acall_id ?_); refine ACall.val awake_c rfl rfl ?_)
        | with_reducible (first | refine zX ?_ | refine zD fun _ => ?_ | refine zD0 ?_ | refine zN ?_ | refine zF0 ?_ | refine zX0 ?_ | refine z1 ?_ | refine z2 ?_ | refine z3 ?_ | refine z4 ?_ | refine z5 ?_ | refine z6 ?_ | refine z7 ?_ | refine z8 ?_ | refine y1 ?_ | refine y2 ?_ | refine y3 ?_ | refine y4 ?_ | refine y5 ?_ | refine y6 ?_ | refine y7 ?_ | refine y8 ?_ | refine Rt.p (fun _ => ?_) fun _ => ?_)
        | ((with_reducible apply w_ixM); (focus exact rfl); (focus exact rfl); case' hk => intro y hy) | ((with_reducible (first | apply w_val | apply q_ends)); (focus exact rfl)))
      rfl
    | cons x post =>
      simp only [List.length_append, List.length_cons] at hlen
      have hA : (l.drop (0 : Int).toNat).take ((pre.length : Int) - 0).toNat = pre := by rw [hp]; simp
      have hB : (l.drop ((pre.length : Int) + 1).toNat).take ((l.length : Int) - ((pre.length : Int) + 1)).toNat = post := by
        rw [show ((pre.length : Int) + 1).toNat = pre.length + 1 by omega, hp]
        rw [show pre ++ x :: post = (pre ++ [x]) ++ post by simp, List.drop_left' (by simp)]
        exact List.take_of_length_le (by simp; omega)
      have hsubl : List.Sublist (pre ++ post) l := by rw [hp]; exact List.Sublist.append_left (List.sublist_cons_self _ _) _
      have hb2 : ∀ i ∈ pre ++ post, 0 ≤ i ∧ i < (rs.length : Int) := fun i hi => hbound i (hsubl.subset hi)
      have hnot : hitB gs rs (pre ++ post) = false := by
        cases hh : hitB gs rs (pre ++ post) with
        | false => rfl
        | true =>
          exfalso
          have h1 := hcnf.least _ (hsubl.trans hcnf.sub) hh
          have h2 : cmpI ((pre ++ post).length : Int) (l.length : Int) < 0 := cmpI_lt.2 (by simp; omega)
          rw [lsI, if_neg (by omega)] at h1
          omega
      have hne : okL gs (onlyR rs (pre ++ post)) ≠ [] := fun h => by rw [(only_none gs rs hb2).1 h] at hnot; cases hnot
      have hN : 0 < (okL gs (onlyR rs (pre ++ post))).length := List.length_pos_iff.2 hne
      have hO2 := only_c gs rs (pre ++ post) (by simp; omega) (by omega) hb2
      have hC3 := Count_c gs (onlyR rs (pre ++ post)) (by omega) (by simp [onlyR]; omega) hsz
      have hk3 : pErr gs (onlyR rs (pre ++ post)) = 0 := pErr_made hm.g g1 (by omega) (by simp [onlyR]; omega) (only_ok hm hb2)
      rw [if_pos hk3, hk3] at hC3
      generalize (okL gs (onlyR rs (pre ++ post))).length = N at hC3 hN
      have hO3 : Fn0 Try.prog 55 [pA gs rs, .slc 1 (iR ((l.drop (0 : Int).toNat).take ((pre.length : Int) - 0).toNat ++ (l.drop ((pre.length : Int) + 1).toNat).take ((l.length : Int) - ((pre.length : Int) + 1)).toNat)) .non] (fun v => v = pA gs (onlyR rs (pre ++ post))) := by rw [hA, hB]; exact hO2
      repeat' (first
        | with_reducible (first | refine Rd.p ?_ | refine zE ?_ | refine zE0 ?_)
        | with_reducible (first | refine zI fun y hy => ?_ | refine zL ?_ | refine zS ?_ | refine zA fun _ => ?_ | refine zV ?_ | refine zC ?_ | refine zG ?_ | refine zU ?_ | refine zG0 ?_ | refine zU0 ?_ | refine zF ?_)
        | ((with_reducible refine acall_id ?_); refine ACall.liftS (intsO_c ((l.drop (0 : Int).toNat).take ((pre.length : Int) - 0).toNat) (by rw [hA]; omega)) [] (some 2) rfl rfl rfl trivial (fun _ => rfl) ?_; rintro g2 _ rfl)
        | ((with_reducible refine acall_id ?_); refine ACall.val hC3 rfl rfl ?_)
        | ((with_reducible refine acall_id ?_); refine ACall.val hO3 rfl rfl ?_)
        | with_reducible (first | refine zX ?_ | refine zD fun _ => ?_ | refine zD0 ?_ | refine zN ?_ | refine zF0 ?_ | refine zX0 ?_ | refine z1 ?_ | refine z2 ?_ | refine z3 ?_ | refine z4 ?_ | refine z5 ?_ | refine z6 ?_ | refine z7 ?_ | refine z8 ?_ | refine y1 ?_ | refine y2 ?_ | refine y3 ?_ | refine y4 ?_ | refine y5 ?_ | refine y6 ?_ | refine y7 ?_ | refine y8 ?_ | refine Rt.p (fun _ => ?_) fun _ => ?_)
        | ((with_reducible apply w_ixM); (focus exact rfl); (focus exact rfl); case' hk => intro y hy) | ((with_reducible (first | apply w_val | apply q_ends)); (focus exact rfl)))
      refine zQ (pre ++ [x], post) ?_ ?_
      · rw [hp]; simp
      · simp
end Go.Abs
