/- A part of the proofs of the laws of this seat: contracts of the functions that they reach, each proved of the program's form in Lean. No condition beyond those that each contract names. -/
import Derived.Test.YtcgcciegekaliaaB0
import Derived.Test.YtcgcciegekaliaaB2
import Derived.Test.YtcgcciegekaliaaB4
import Derived.Test.YtcgcciegekaliaaB5
import Derived.Test.YtcgcciegekaliaaB3
import Derived.Test.YtcgcciegekaliaaB6
import Derived.Test.YtcgcciegekaliaaB1
set_option linter.unusedVariables false
set_option linter.unusedSimpArgs false
set_option maxRecDepth 20000
set_option maxHeartbeats 4000000
/-! ### Guests and dishes made of numbers -/
namespace Go.Abs
open Go.Proofs
/-- aloeswood/aloeswoodkit.guestNames -/
def ir63 : IFn :=
  ⟨2, [(0, none)], (.seq (.ops [⟨(some 0), none, (.mov (.k .nsl))⟩])
  (.seq (.ops [⟨(some 1), none, (.bsl 1 [[(.str ByteArray.empty)], [(.str ByteArray.empty)], [(.str ByteArray.empty)], [(.str ByteArray.empty)], [(.str ByteArray.empty)], [(.str ByteArray.empty)], [(.str ByteArray.empty)], [(.str ByteArray.empty)], [(.str ByteArray.empty)], [(.str ByteArray.empty)]] [(0, (.k (.str ⟨#[97, 110, 110]⟩))), (1, (.k (.str ⟨#[98, 111, 98]⟩))), (2, (.k (.str ⟨#[99, 105, 100]⟩))), (3, (.k (.str ⟨#[100, 111, 114, 97]⟩))), (4, (.k (.str ⟨#[101, 118, 101]⟩))), (5, (.k (.str ⟨#[102, 97, 121]⟩))), (6, (.k (.str ⟨#[103, 117, 115]⟩))), (7, (.k (.str ⟨#[104]⟩))), (8, (.k (.str ⟨#[97, 98, 99, 100, 101, 102, 103, 104]⟩))), (9, (.k (.str ⟨#[122, 111, 101]⟩)))])⟩,
    ⟨(some 0), none, (.mov (.t 1))⟩])
  .ret))⟩
def hint63 (P : Program) : Hint := {}

/-- aloeswood/aloeswoodkit.GuestsOf -/
def ir18 : IFn :=
  ⟨49, [(4, none)], (.seq (.ops [⟨(some 4), none, (.mov (.k .nsl))⟩])
  (.seq (.ops [⟨(some 5), none, (.nil 5 5)⟩])
  (.seq (.seq (.ops [⟨(some 6), none, (.mov (.k (.int .i64 0)))⟩])
  (.blk 0 (.loop (.seq (.seq (.ops [⟨(some 8), none, (.mov (.t 6))⟩,
        ⟨(some 9), none, (.mov (.t 1))⟩,
        ⟨(some 10), none, (.bin .lss (.t 8) (.t 9))⟩])
      (.cnd (.t 10)
        .skip
        (.exit 0)))
      (.seq (.blk 1 (.seq (.ops [⟨none, none, (.kil 7)⟩,
          ⟨(some 14), none, (.mov (.t 6))⟩,
          ⟨(some 17), none, (.mov (.t 0))⟩,
          ⟨(some 18), none, (.mov (.t 0))⟩,
          ⟨(some 19), none, (.bsl 1 [[(.int .i64 0)], [(.int .i64 0)]] [(0, (.k (.int .i64 2))), (1, (.k (.int .i64 10)))])⟩,
          ⟨(some 22), none, (.mov (.t 0))⟩,
          ⟨(some 23), none, (.mov (.t 0))⟩,
          ⟨(some 24), none, (.bsl 1 [[(.int .i64 0)], [(.int .i64 0)], [(.int .i64 0)]] [(0, (.k (.int .i64 1))), (1, (.k (.int .i64 4))), (2, (.k (.int .i64 1001)))])⟩,
          ⟨(some 13), none, (.callF 63 [])⟩,
          ⟨(some 15), none, (.ixA 1 (.t 13) (.t 14))⟩,
          ⟨(some 16), none, (.ld 1 false (.t 15))⟩,
          ⟨(some 20), none, (.callF 64 [(.t 18), (.t 19)])⟩,
          ⟨none, none, (.chk 1 false (.t 15) 16)⟩,
          ⟨(some 21), none, (.callF 19 [(.t 17), (.t 20)])⟩,
          ⟨none, none, (.chk 1 false (.t 15) 16)⟩,
          ⟨(some 25), none, (.callF 64 [(.t 23), (.t 24)])⟩,
          ⟨none, none, (.chk 1 false (.t 15) 16)⟩,
          ⟨(some 26), none, (.callF 19 [(.t 22), (.t 25)])⟩,
          ⟨none, none, (.chk 1 false (.t 15) 16)⟩,
          ⟨(some 27), none, (.bld [(.str ByteArray.empty), (.int .i64 0), (.int .i64 0), (.int .i64 0), (.int .i64 0)] [(0, 1, (.t 16)), (1, 1, (.t 21)), (2, 1, (.t 26))])⟩,
          ⟨(some 7), none, (.new [(.str ByteArray.empty), (.int .i64 0), (.int .i64 0), (.int .i64 0), (.int .i64 0)])⟩,
          ⟨none, none, (.st 5 (.t 7) (.t 27))⟩])
        (.seq (.seq (.ops [⟨(some 28), none, (.mov (.t 0))⟩,
          ⟨(some 29), none, (.callF 65 [(.t 28), (.k (.int .i64 2))])⟩])
        (.cnd (.t 29)
          (.ops [⟨(some 30), none, (.mov (.t 0))⟩,
            ⟨(some 31), none, (.callF 19 [(.t 30), (.k (.int .i64 16))])⟩,
            ⟨(some 32), none, (.mov (.t 0))⟩,
            ⟨(some 33), none, (.callF 19 [(.t 32), (.k (.int .i64 16))])⟩,
            ⟨(some 34), none, (.bin .and (.t 31) (.t 33))⟩,
            ⟨(some 35), none, (.flA 3 (.t 7))⟩,
            ⟨none, none, (.st 1 (.t 35) (.t 34))⟩])
          .skip))
        (.seq (.seq (.ops [⟨(some 36), none, (.mov (.t 0))⟩,
          ⟨(some 37), none, (.callF 65 [(.t 36), (.k (.int .i64 3))])⟩])
        (.cnd (.t 37)
          (.ops [⟨(some 38), none, (.mov (.t 0))⟩,
            ⟨(some 39), none, (.callF 19 [(.t 38), (.k (.int .i64 16))])⟩,
            ⟨(some 40), none, (.mov (.t 0))⟩,
            ⟨(some 41), none, (.callF 19 [(.t 40), (.k (.int .i64 16))])⟩,
            ⟨(some 42), none, (.bin .and (.t 39) (.t 41))⟩,
            ⟨(some 43), none, (.flA 4 (.t 7))⟩,
            ⟨none, none, (.st 1 (.t 43) (.t 42))⟩])
          .skip))
        (.ops [⟨(some 44), none, (.mov (.t 5))⟩,
          ⟨(some 45), none, (.ld 5 true (.t 7))⟩,
          ⟨(some 46), none, (.bsl 5 [[(.str ByteArray.empty), (.int .i64 0), (.int .i64 0), (.int .i64 0), (.int .i64 0)]] [(0, (.t 45))])⟩,
          ⟨(some 47), none, (.app 5 48 (.t 44) (.t 46) 5)⟩,
          ⟨(some 5), none, (.mov (.t 47))⟩])))))
      (.ops [⟨(some 11), none, (.mov (.t 6))⟩,
        ⟨(some 12), none, (.bin .add (.t 11) (.k (.int .i64 1)))⟩,
        ⟨(some 6), none, (.mov (.t 12))⟩]))))))
  (.seq (.ops [⟨(some 48), none, (.mov (.t 5))⟩,
    ⟨(some 4), none, (.mov (.t 48))⟩])
  .ret))))⟩
def hint18 (P : Program) : Hint := { site := [(47, 5)], nils := [(5, 5)], frz := [], mve := [], wr := [] }

/-- aloeswood/aloeswoodkit.DishesOf -/
def ir21 : IFn :=
  ⟨44, [(6, none)], (.seq (.ops [⟨(some 6), none, (.mov (.k .nsl))⟩])
  (.seq (.ops [⟨(some 7), none, (.nil 3 7)⟩])
  (.seq (.seq (.ops [⟨(some 10), none, (.mov (.t 0))⟩,
    ⟨(some 11), none, (.mov (.t 2))⟩,
    ⟨(some 12), none, (.mov (.t 1))⟩,
    ⟨(some 13), none, (.callF 20 [(.t 10), (.t 11), (.t 12)])⟩,
    ⟨(some 8), none, (.mov (.t 13))⟩])
  (.blk 0 (.loop (.seq (.seq (.ops [⟨(some 14), none, (.mov (.t 8))⟩,
        ⟨(some 15), none, (.bin .gtr (.t 14) (.k (.int .i64 0)))⟩])
      (.cnd (.t 15)
        .skip
        (.exit 0)))
      (.seq (.blk 1 (.seq (.ops [⟨(some 18), none, (.mov (.t 0))⟩,
          ⟨(some 19), none, (.mov (.t 2))⟩,
          ⟨(some 20), none, (.callF 19 [(.t 18), (.t 19)])⟩,
          ⟨(some 21), none, (.mov (.t 0))⟩,
          ⟨(some 22), none, (.callF 19 [(.t 21), (.k (.int .i64 16))])⟩,
          ⟨(some 23), none, (.mov (.t 0))⟩,
          ⟨(some 24), none, (.mov (.t 0))⟩,
          ⟨(some 25), none, (.bsl 1 [[(.int .i64 0)], [(.int .i64 0)]] [(0, (.k (.int .i64 4))), (1, (.k (.int .i64 1001)))])⟩,
          ⟨(some 26), none, (.callF 64 [(.t 24), (.t 25)])⟩,
          ⟨(some 27), none, (.callF 19 [(.t 23), (.t 26)])⟩,
          ⟨(some 28), none, (.bld [(.int .i64 0), (.int .i64 0), (.int .i64 0)] [(0, 1, (.t 20)), (1, 1, (.t 22)), (2, 1, (.t 27))])⟩,
          ⟨(some 9), none, (.new [(.int .i64 0), (.int .i64 0), (.int .i64 0)])⟩,
          ⟨none, none, (.st 3 (.t 9) (.t 28))⟩])
        (.seq (.seq (.ops [⟨(some 29), none, (.mov (.t 7))⟩,
          ⟨(some 30), none, (.len false (.t 29))⟩,
          ⟨(some 31), none, (.mov (.t 2))⟩,
          ⟨(some 32), none, (.bin .lss (.t 30) (.t 31))⟩])
        (.cnd (.t 32)
          (.ops [⟨(some 33), none, (.mov (.t 7))⟩,
            ⟨(some 34), none, (.len false (.t 33))⟩,
            ⟨(some 35), none, (.flA 0 (.t 9))⟩,
            ⟨none, none, (.st 1 (.t 35) (.t 34))⟩])
          .skip))
        (.seq (.seq (.ops [⟨(some 36), none, (.mov (.t 0))⟩,
          ⟨(some 37), none, (.callF 65 [(.t 36), (.k (.int .i64 3))])⟩])
        (.cnd (.t 37)
          (.ops [⟨(some 38), none, (.flA 1 (.t 9))⟩,
            ⟨none, none, (.st 1 (.t 38) (.k (.int .i64 0)))⟩])
          .skip))
        (.ops [⟨(some 39), none, (.mov (.t 7))⟩,
          ⟨(some 40), none, (.ld 3 true (.t 9))⟩,
          ⟨(some 41), none, (.bsl 3 [[(.int .i64 0), (.int .i64 0), (.int .i64 0)]] [(0, (.t 40))])⟩,
          ⟨(some 42), none, (.app 3 24 (.t 39) (.t 41) 7)⟩,
          ⟨(some 7), none, (.mov (.t 42))⟩])))))
      (.ops [⟨(some 16), none, (.mov (.t 8))⟩,
        ⟨(some 17), none, (.bin .sub (.t 16) (.k (.int .i64 1)))⟩,
        ⟨(some 8), none, (.mov (.t 17))⟩]))))))
  (.seq (.ops [⟨(some 43), none, (.mov (.t 7))⟩,
    ⟨(some 6), none, (.mov (.t 43))⟩])
  .ret))))⟩
def hint21 (P : Program) : Hint := { site := [(42, 7)], nils := [(7, 3)], frz := [], mve := [], wr := [] }

/-- aloeswood/aloeswoodlaw08.fed -/
def ir28 : IFn :=
  ⟨80, [(8, none), (9, none)], (.seq (.ops [⟨(some 8), none, (.mov (.k (.int .i64 0)))⟩,
    ⟨(some 9), none, (.mov (.k (.bool false)))⟩])
  (.seq (.ops [⟨(some 10), none, (.mov (.k (.int .i64 0)))⟩])
  (.seq (.seq (.ops [⟨(some 11), none, (.mov (.k (.int .i64 0)))⟩])
  (.blk 0 (.loop (.seq (.seq (.ops [⟨(some 17), none, (.mov (.t 11))⟩,
        ⟨(some 18), none, (.mov (.t 2))⟩,
        ⟨(some 19), none, (.len false (.t 18))⟩,
        ⟨(some 20), none, (.bin .lss (.t 17) (.t 19))⟩])
      (.cnd (.t 20)
        .skip
        (.exit 0)))
      (.seq (.blk 1 (.seq (.seq (.ops [⟨(some 23), none, (.mov (.t 1))⟩,
          ⟨(some 24), none, (.mov (.t 2))⟩,
          ⟨(some 25), none, (.mov (.t 11))⟩,
          ⟨(some 26), none, (.ixA 1 (.t 24) (.t 25))⟩,
          ⟨(some 27), none, (.ld 1 false (.t 26))⟩,
          ⟨(some 28), none, (.ixA 3 (.t 23) (.t 27))⟩,
          ⟨(some 29), none, (.flA 0 (.t 28))⟩,
          ⟨(some 30), none, (.ld 1 false (.t 29))⟩,
          ⟨(some 31), none, (.mov (.t 11))⟩,
          ⟨(some 32), none, (.bin .neq (.t 30) (.t 31))⟩])
        (.cnd (.t 32)
          (.seq (.ops [⟨(some 8), none, (.mov (.k (.int .i64 0)))⟩,
            ⟨(some 9), none, (.mov (.k (.bool false)))⟩])
          .ret)
          .skip))
        (.ops [⟨(some 33), none, (.mov (.t 10))⟩,
          ⟨(some 34), none, (.mov (.t 1))⟩,
          ⟨(some 35), none, (.mov (.t 2))⟩,
          ⟨(some 36), none, (.mov (.t 11))⟩,
          ⟨(some 37), none, (.ixA 1 (.t 35) (.t 36))⟩,
          ⟨(some 38), none, (.ld 1 false (.t 37))⟩,
          ⟨(some 39), none, (.ixA 3 (.t 34) (.t 38))⟩,
          ⟨(some 40), none, (.flA 2 (.t 39))⟩,
          ⟨(some 41), none, (.ld 1 false (.t 40))⟩,
          ⟨(some 42), none, (.bin .add (.t 33) (.t 41))⟩,
          ⟨(some 10), none, (.mov (.t 42))⟩])))
      (.ops [⟨(some 21), none, (.mov (.t 11))⟩,
        ⟨(some 22), none, (.bin .add (.t 21) (.k (.int .i64 1)))⟩,
        ⟨(some 11), none, (.mov (.t 22))⟩]))))))
  (.seq (.seq (.ops [⟨(some 12), none, (.mov (.k (.int .i64 0)))⟩])
  (.blk 2 (.loop (.seq (.seq (.ops [⟨(some 43), none, (.mov (.t 12))⟩,
        ⟨(some 44), none, (.mov (.t 0))⟩,
        ⟨(some 45), none, (.len false (.t 44))⟩,
        ⟨(some 46), none, (.bin .lss (.t 43) (.t 45))⟩])
      (.cnd (.t 46)
        .skip
        (.exit 2)))
      (.seq (.blk 3 (.seq (.ops [⟨(some 13), none, (.mov (.k (.int .i64 0)))⟩])
        (.seq (.seq (.ops [⟨(some 14), none, (.mov (.k (.int .i64 0)))⟩])
        (.blk 4 (.loop (.seq (.seq (.ops [⟨(some 49), none, (.mov (.t 14))⟩,
              ⟨(some 50), none, (.mov (.t 2))⟩,
              ⟨(some 51), none, (.len false (.t 50))⟩,
              ⟨(some 52), none, (.bin .lss (.t 49) (.t 51))⟩])
            (.cnd (.t 52)
              .skip
              (.exit 4)))
            (.seq (.blk 5 (.seq (.ops [⟨(some 56), none, (.mov (.t 0))⟩,
                ⟨(some 57), none, (.mov (.t 12))⟩,
                ⟨(some 58), none, (.ixA 5 (.t 56) (.t 57))⟩,
                ⟨(some 59), none, (.ld 5 true (.t 58))⟩,
                ⟨(some 60), none, (.mov (.t 1))⟩,
                ⟨(some 61), none, (.mov (.t 2))⟩,
                ⟨(some 62), none, (.mov (.t 14))⟩,
                ⟨(some 63), none, (.ixA 1 (.t 61) (.t 62))⟩,
                ⟨(some 64), none, (.ld 1 false (.t 63))⟩,
                ⟨(some 65), none, (.ixA 3 (.t 60) (.t 64))⟩,
                ⟨(some 66), none, (.ld 3 true (.t 65))⟩,
                ⟨(some 67), none, (.callF 26 [(.t 59), (.t 66)])⟩,
                ⟨(some 55), none, (.mov (.t 67))⟩,
                ⟨(some 68), none, (.ext 0 (.t 55))⟩,
                ⟨(some 69), none, (.ext 1 (.t 55))⟩,
                ⟨(some 15), none, (.mov (.t 68))⟩,
                ⟨(some 16), none, (.mov (.t 69))⟩])
              (.seq (.seq (.ops [⟨(some 70), none, (.mov (.t 16))⟩,
                ⟨(some 71), none, (.bin .neq (.t 70) (.k (.int .i64 0)))⟩])
              (.cnd (.t 71)
                (.seq (.ops [⟨(some 8), none, (.mov (.k (.int .i64 0)))⟩,
                  ⟨(some 9), none, (.mov (.k (.bool false)))⟩])
                .ret)
                .skip))
              (.seq (.ops [⟨(some 72), none, (.mov (.t 15))⟩,
                ⟨(some 73), none, (.bin .eql (.t 72) (.k (.int .i64 1)))⟩])
              (.cnd (.t 73)
                (.ops [⟨(some 74), none, (.mov (.t 13))⟩,
                  ⟨(some 75), none, (.bin .add (.t 74) (.k (.int .i64 1)))⟩,
                  ⟨(some 13), none, (.mov (.t 75))⟩])
                .skip)))))
            (.ops [⟨(some 53), none, (.mov (.t 14))⟩,
              ⟨(some 54), none, (.bin .add (.t 53) (.k (.int .i64 1)))⟩,
              ⟨(some 14), none, (.mov (.t 54))⟩]))))))
        (.seq (.ops [⟨(some 76), none, (.mov (.t 13))⟩,
          ⟨(some 77), none, (.mov (.t 3))⟩,
          ⟨(some 78), none, (.bin .lss (.t 76) (.t 77))⟩])
        (.cnd (.t 78)
          (.seq (.ops [⟨(some 8), none, (.mov (.k (.int .i64 0)))⟩,
            ⟨(some 9), none, (.mov (.k (.bool false)))⟩])
          .ret)
          .skip)))))
      (.ops [⟨(some 47), none, (.mov (.t 12))⟩,
        ⟨(some 48), none, (.bin .add (.t 47) (.k (.int .i64 1)))⟩,
        ⟨(some 12), none, (.mov (.t 48))⟩]))))))
  (.seq (.ops [⟨(some 79), none, (.mov (.t 10))⟩,
    ⟨(some 8), none, (.mov (.t 79))⟩,
    ⟨(some 9), none, (.mov (.k (.bool true)))⟩])
  .ret)))))⟩
def hint28 (P : Program) : Hint := {}

abbrev sR (l : List ByteArray) : List (List AV) := l.map fun s => [.str s]
def guestNs : List ByteArray := [⟨#[97, 110, 110]⟩, ⟨#[98, 111, 98]⟩, ⟨#[99, 105, 100]⟩, ⟨#[100, 111, 114, 97]⟩, ⟨#[101, 118, 101]⟩, ⟨#[102, 97, 121]⟩, ⟨#[103, 117, 115]⟩, ⟨#[104]⟩, ⟨#[97, 98, 99, 100, 101, 102, 103, 104]⟩, ⟨#[122, 111, 101]⟩]
theorem guestNames_c : Fn0 Try.prog 63 [] (fun v => v = .slc 1 (sR guestNs) .non) := by
  refine RawC.walk (H := hint63 Try.prog) ir63 Try.func63 rfl rfl rfl ?_
  unfold ir63
  repeat' (first
    | with_reducible (first | refine Rd.p ?_ | refine zE ?_ | refine zE0 ?_)
    | with_reducible (first | refine zI fun y hy => ?_ | refine zL ?_ | refine zS ?_ | refine zA fun _ => ?_ | refine zV ?_ | refine zC ?_ | refine zG ?_ | refine zU ?_ | refine zG0 ?_ | refine zU0 ?_ | refine zF ?_)
    | with_reducible (first | refine zX ?_ | refine zD fun _ => ?_ | refine zD0 ?_ | refine zN ?_ | refine zF0 ?_ | refine zX0 ?_ | refine z1 ?_ | refine z2 ?_ | refine z3 ?_ | refine z4 ?_ | refine z5 ?_ | refine z6 ?_ | refine z7 ?_ | refine z8 ?_ | refine y1 ?_ | refine y2 ?_ | refine y3 ?_ | refine y4 ?_ | refine y5 ?_ | refine y6 ?_ | refine y7 ?_ | refine y8 ?_ | refine Rt.p (fun _ => ?_) fun _ => ?_)
    | ((with_reducible apply w_ixM); (focus exact rfl); (focus exact rfl); case' hk => intro y hy) | ((with_reducible (first | apply w_val | apply q_ends)); (focus exact rfl)))
  rfl
theorem guestNs_ok : guestNs.Nodup ∧ ∀ s ∈ guestNs, namedB s = true ∧ s.size ≤ 8 := by decide
theorem gErr_ok {g : Guest} (h : namedB g.name = true) (h2 : gOK g = true) : gErr g = 0 := by rw [gErr_eq, if_pos h, if_pos h2]
theorem gsErr_zero : ∀ {post pre : List Guest}, (∀ g ∈ post, gErr g = 0) → ((pre ++ post).map (·.name)).Nodup → gsErr pre post = 0
  | [], _, _, _ => rfl
  | g :: post, pre, h, hn => by
    have h1 : pre.any (fun x => decide (x.name = g.name)) = false := by
      rw [List.any_eq_false]
      intro x hx
      simp only [decide_eq_true_eq]
      intro he
      rw [List.map_append, List.nodup_append] at hn
      exact hn.2.2 _ (List.mem_map.2 ⟨x, hx, rfl⟩) _ (List.mem_map.2 ⟨g, by simp, rfl⟩) he
    rw [gsErr, if_pos (h g (by simp)), if_neg (by rw [h1]; simp)]
    exact gsErr_zero (fun x hx => h x (by simp [hx])) (by simpa using hn)
/-- Guests made of numbers: their names are the first ones. -/
def madeG (gs : List Guest) : Prop := gs.map (·.name) = guestNs.take gs.length ∧ ∀ g ∈ gs, gOK g = true
theorem madeG_ok {gs : List Guest} (h : madeG gs) : gsErr [] gs = 0 ∧ ∀ g ∈ gs, g.name.size ≤ 8 := by
  have hm : ∀ g ∈ gs, g.name ∈ guestNs := fun g hg => List.mem_of_mem_take (h.1 ▸ List.mem_map.2 ⟨g, hg, rfl⟩)
  refine ⟨gsErr_zero (fun g hg => gErr_ok (guestNs_ok.2 _ (hm g hg)).1 (h.2 g hg)) ?_, fun g hg => (guestNs_ok.2 _ (hm g hg)).2⟩
  rw [List.nil_append, h.1]
  exact (List.take_sublist _ _).nodup guestNs_ok.1
theorem madeG_snoc {gs : List Guest} {g : Guest} (h : madeG gs) (hn : guestNs[gs.length]? = some g.name) (hg : gOK g = true) : madeG (gs ++ [g]) := by
  refine ⟨?_, fun x hx => ?_⟩
  · rw [List.map_append, h.1, len_snoc, List.take_add_one, hn]; rfl
  · rcases List.mem_append.1 hx with hx | hx
    · exact h.2 x hx
    · simp at hx; subst hx; exact hg
theorem gOK_mk {s : ByteArray} {a b c d : Int} (h1 : 0 ≤ a ∧ a ≤ 9) (h2 : 0 ≤ b ∧ b ≤ 1000) (h3 : 0 ≤ c ∧ c ≤ 255) (h4 : 0 ≤ d ∧ d ≤ 255) : gOK ⟨s, a, b, c, d⟩ = true := by
  simp only [gOK, Bool.and_eq_true, inB_t]; exact ⟨⟨⟨h1, h2⟩, h3⟩, h4⟩
theorem and255 {k k2 : Int} (h1 : 0 ≤ k) (h2 : k < 16) (h3 : 0 ≤ k2) (h4 : k2 < 16) : 0 ≤ bitV .and .i64 k k2 ∧ bitV .and .i64 k k2 ≤ 255 := by
  have := and_bd h1 h3 h2 (by omega) (by omega); omega
theorem guestsOf_c (g : Nat) (w many : Int) (hm : 0 ≤ many ∧ many ≤ 10) : RawC Try.prog 18 [.ref 1000 g 0, .int .i64 many] (BoxS g w) (BoxR g fun av => ∃ gs, av = .slc 5 (gR gs) .non ∧ madeG gs ∧ (gs.length : Int) = many) := by
  refine RawC.walk (H := hint18 Try.prog) ir18 Try.func18 rfl rfl rfl ?_
  unfold ir18
  repeat' (first
    | with_reducible (first | refine Rd.p ?_ | refine zE ?_ | refine zE0 ?_)
    | with_reducible (first | refine zI fun y hy => ?_ | refine zL ?_ | refine zS ?_ | refine zA fun _ => ?_ | refine zV ?_ | refine zC ?_ | refine zG ?_ | refine zU ?_ | refine zG0 ?_ | refine zU0 ?_ | refine zF ?_)
    | with_reducible (first | refine zX ?_ | refine zD fun _ => ?_ | refine zD0 ?_ | refine zN ?_ | refine zF0 ?_ | refine zX0 ?_ | refine z1 ?_ | refine z2 ?_ | refine z3 ?_ | refine z4 ?_ | refine z5 ?_ | refine z6 ?_ | refine z7 ?_ | refine z8 ?_ | refine y1 ?_ | refine y2 ?_ | refine y3 ?_ | refine y4 ?_ | refine y5 ?_ | refine y6 ?_ | refine y7 ?_ | refine y8 ?_ | refine Rt.p (fun _ => ?_) fun _ => ?_)
    | ((with_reducible apply w_ixM); (focus exact rfl); (focus exact rfl); case' hk => intro y hy) | ((with_reducible (first | apply w_val | apply q_ends)); (focus exact rfl)))
  rename_i g0
  refine w_loopK [0, 1] [] (fun x : List Guest × Nat × Int => madeG x.1 ∧ (x.1.length : Int) ≤ many) (fun x => 10 - x.1.length) (fun x => [(6, .int .i64 x.1.length), (5, .slc 5 (gR x.1) (.own 5 x.2.1))])
    (fun x => [(5, (x.2.1, .row [])), (1000, (g, .row [.int .u64 x.2.2]))]) ([], g0, w) ⟨⟨rfl, by simp⟩, hm.1⟩ ⟨rfl, rfl, trivial⟩ ⟨rfl, rfl, trivial⟩ ?_
  rintro ⟨gs, g5, w⟩ ⟨hg, hl⟩ e σ
  dsimp only at hg hl ⊢
  by_cases hlt : (gs.length : Int) < many
  case neg =>
    repeat' (first
      | with_reducible (first | refine Rd.p ?_ | refine zE ?_ | refine zE0 ?_)
      | with_reducible (first | refine zI fun y hy => ?_ | refine zL ?_ | refine zS ?_ | refine zA fun _ => ?_ | refine zV ?_ | refine zC ?_ | refine zG ?_ | refine zU ?_ | refine zG0 ?_ | refine zU0 ?_ | refine zF ?_)
      | with_reducible (first | refine zX ?_ | refine zD fun _ => ?_ | refine zD0 ?_ | refine zN ?_ | refine zF0 ?_ | refine zX0 ?_ | refine z1 ?_ | refine z2 ?_ | refine z3 ?_ | refine z4 ?_ | refine z5 ?_ | refine z6 ?_ | refine z7 ?_ | refine z8 ?_ | refine y1 ?_ | refine y2 ?_ | refine y3 ?_ | refine y4 ?_ | refine y5 ?_ | refine y6 ?_ | refine y7 ?_ | refine y8 ?_ | refine Rt.p (fun _ => ?_) fun _ => ?_)
      | ((with_reducible apply w_ixM); (focus exact rfl); (focus exact rfl); case' hk => intro y hy) | ((with_reducible (first | apply w_val | apply q_ends)); (focus exact rfl)))
    exact ⟨_, ⟨gs, rfl, hg, by omega⟩, rfl⟩
  have hnl : guestNs.length = 10 := rfl
  repeat' (first
    | with_reducible (first | refine Rd.p ?_ | refine zE ?_ | refine zE0 ?_)
    | with_reducible (first | refine zI fun y hy => ?_ | refine zL ?_ | refine zS ?_ | refine zA fun _ => ?_ | refine zV ?_ | refine zC ?_ | refine zG ?_ | refine zU ?_ | refine zG0 ?_ | refine zU0 ?_ | refine zF ?_)
    | ((with_reducible refine acall_id ?_); refine ACall.val guestNames_c rfl rfl ?_)
    | ((with_reducible refine acall_id ?_); refine ACall.box (pick_c _ _ [2, 10] (by simp) (by simp)) rfl rfl rfl ?_; rintro _ _ ⟨k1, rfl, hk1⟩)
    | ((with_reducible refine acall_id ?_); refine ACall.box (pick_c _ _ [1, 4, 1001] (by simp) (by simp)) rfl rfl rfl ?_; rintro _ _ ⟨k2, rfl, hk2⟩)
    | (have hq1 : 0 < k1 ∧ k1 ≤ 10 := (by simp at hk1; omega); clear hk1)
    | (have hq2 : 0 < k2 ∧ k2 ≤ 1001 := (by simp at hk2; omega); clear hk2)
    | ((with_reducible refine acall_id ?_); refine ACall.box (upp_c _ _ _ (by omega) (by omega)) rfl rfl rfl ?_; rintro _ _ ⟨_, rfl, _, _⟩)
    | ((with_reducible refine acall_id ?_); refine ACall.box (one_c _ _ _ (by omega)) rfl rfl rfl ?_; rintro _ _ ⟨b1, rfl⟩)
    | with_reducible (first | refine zX ?_ | refine zD fun _ => ?_ | refine zD0 ?_ | refine zN ?_ | refine zF0 ?_ | refine zX0 ?_ | refine z1 ?_ | refine z2 ?_ | refine z3 ?_ | refine z4 ?_ | refine z5 ?_ | refine z6 ?_ | refine z7 ?_ | refine z8 ?_ | refine y1 ?_ | refine y2 ?_ | refine y3 ?_ | refine y4 ?_ | refine y5 ?_ | refine y6 ?_ | refine y7 ?_ | refine y8 ?_ | refine Rt.p (fun _ => ?_) fun _ => ?_)
    | ((with_reducible apply w_ixM); (focus exact rfl); (focus exact rfl); case' hk => intro y hy) | ((with_reducible (first | apply w_val | apply q_ends)); (focus exact rfl)))
  all_goals
    refine q_loop (_, _, _) ?_ ?_ (by repeat' (first | exact slots_nil | apply slots_cons | rfl | (rw [map_snoc]; rfl) | (rw [len_snoc]; rfl) | (rw [hS]; rfl) | (rw [hS, map_snoc]; rfl) | (refine int_eq ?_; (try dsimp only); omega) | (refine congrArg AV.bool ?_; simp_all; done))) (by repeat' (first | exact slots_nil | apply slots_cons | rfl | (rw [map_snoc]; rfl) | (rw [len_snoc]; rfl) | (rw [hS]; rfl) | (rw [hS, map_snoc]; rfl) | (refine int_eq ?_; (try dsimp only); omega) | (refine congrArg AV.bool ?_; simp_all; done))) (by repeat' (first | exact kept_nil | apply kept_cons | rfl)) (by repeat' (first | exact kept_nil | apply kept_cons | rfl))
    · exact ⟨madeG_snoc hg (by simpa using hy) (gOK_mk (by omega) (by omega) (by first | omega | exact and255 (by assumption) (by assumption) (by assumption) (by assumption)) (by first | omega | exact and255 (by assumption) (by assumption) (by assumption) (by assumption))), by simp; omega⟩
    · simp; omega
theorem dErr_ok {a b c : Int} (h1 : 0 ≤ a ∧ a ≤ 3) (h2 : 0 ≤ b ∧ b ≤ 255) (h3 : 0 ≤ c ∧ c ≤ 1000) : dErr ⟨a, b, c⟩ = 0 := by
  unfold dErr; rw [if_pos]; simp only [Bool.and_eq_true, inB_t]; exact ⟨⟨h1, h2⟩, h3⟩
theorem dsErr_ok : ∀ {ds : List Dish}, (∀ d ∈ ds, dErr d = 0) → dsErr ds = 0
  | [], _ => rfl
  | d :: r, h => by rw [dsErr, if_pos (h d (by simp))]; exact dsErr_ok fun x hx => h x (by simp [hx])
theorem dishesOf_c (g : Nat) (w most turns : Int) (ht : 1 ≤ turns ∧ turns ≤ 4) (hm : turns ≤ most ∧ most ≤ 16) : RawC Try.prog 21 [.ref 1000 g 0, .int .i64 most, .int .i64 turns] (BoxS g w)
    (BoxR g fun av => ∃ ds, av = .slc 3 (dR ds) .non ∧ (∀ d ∈ ds, dErr d = 0) ∧ 1 ≤ ds.length ∧ ds.length ≤ 16) := by
  refine RawC.walk (H := hint21 Try.prog) ir21 Try.func21 rfl rfl rfl ?_
  unfold ir21
  repeat' (first
    | with_reducible (first | refine Rd.p ?_ | refine zE ?_ | refine zE0 ?_)
    | with_reducible (first | refine zI fun y hy => ?_ | refine zL ?_ | refine zS ?_ | refine zA fun _ => ?_ | refine zV ?_ | refine zC ?_ | refine zG ?_ | refine zU ?_ | refine zG0 ?_ | refine zU0 ?_ | refine zF ?_)
    | ((with_reducible refine acall_id ?_); refine ACall.box (any_c _ _ _ _ (by omega) (by omega) (by omega) (by omega)) rfl rfl rfl ?_; rintro _ _ ⟨n0, rfl, hn0⟩)
    | with_reducible (first | refine zX ?_ | refine zD fun _ => ?_ | refine zD0 ?_ | refine zN ?_ | refine zF0 ?_ | refine zX0 ?_ | refine z1 ?_ | refine z2 ?_ | refine z3 ?_ | refine z4 ?_ | refine z5 ?_ | refine z6 ?_ | refine z7 ?_ | refine z8 ?_ | refine y1 ?_ | refine y2 ?_ | refine y3 ?_ | refine y4 ?_ | refine y5 ?_ | refine y6 ?_ | refine y7 ?_ | refine y8 ?_ | refine Rt.p (fun _ => ?_) fun _ => ?_)
    | ((with_reducible apply w_ixM); (focus exact rfl); (focus exact rfl); case' hk => intro y hy) | ((with_reducible (first | apply w_val | apply q_ends)); (focus exact rfl)))
  rename_i g0 _
  have hn1 : 1 ≤ n0 ∧ n0 ≤ 16 := by omega
  refine w_loopK [0, 2] [] (fun x : List Dish × Nat × Int × Int => (∀ d ∈ x.1, dErr d = 0) ∧ 0 ≤ x.2.2.2 ∧ (x.1.length : Int) + x.2.2.2 = n0) (fun x => x.2.2.2.toNat) (fun x => [(8, .int .i64 x.2.2.2), (7, .slc 3 (dR x.1) (.own 7 x.2.1))])
    (fun x => [(7, (x.2.1, .row [])), (1000, (g, .row [.int .u64 x.2.2.1]))]) ([], g0, _, n0) ⟨(fun d hd => by cases hd), by dsimp only; omega, by dsimp only; simp⟩ ⟨rfl, rfl, trivial⟩ ⟨rfl, rfl, trivial⟩ ?_
  rintro ⟨ds, g7, w, n⟩ ⟨hd, hn, hl⟩ e σ
  dsimp only at hd hn hl ⊢
  by_cases hlt : 0 < n
  case neg =>
    repeat' (first
      | with_reducible (first | refine Rd.p ?_ | refine zE ?_ | refine zE0 ?_)
      | with_reducible (first | refine zI fun y hy => ?_ | refine zL ?_ | refine zS ?_ | refine zA fun _ => ?_ | refine zV ?_ | refine zC ?_ | refine zG ?_ | refine zU ?_ | refine zG0 ?_ | refine zU0 ?_ | refine zF ?_)
      | with_reducible (first | refine zX ?_ | refine zD fun _ => ?_ | refine zD0 ?_ | refine zN ?_ | refine zF0 ?_ | refine zX0 ?_ | refine z1 ?_ | refine z2 ?_ | refine z3 ?_ | refine z4 ?_ | refine z5 ?_ | refine z6 ?_ | refine z7 ?_ | refine z8 ?_ | refine y1 ?_ | refine y2 ?_ | refine y3 ?_ | refine y4 ?_ | refine y5 ?_ | refine y6 ?_ | refine y7 ?_ | refine y8 ?_ | refine Rt.p (fun _ => ?_) fun _ => ?_)
      | ((with_reducible apply w_ixM); (focus exact rfl); (focus exact rfl); case' hk => intro y hy) | ((with_reducible (first | apply w_val | apply q_ends)); (focus exact rfl)))
    exact ⟨_, ⟨ds, rfl, hd, by omega, by omega⟩, rfl⟩
  repeat' (first
    | with_reducible (first | refine Rd.p ?_ | refine zE ?_ | refine zE0 ?_)
    | with_reducible (first | refine zI fun y hy => ?_ | refine zL ?_ | refine zS ?_ | refine zA fun _ => ?_ | refine zV ?_ | refine zC ?_ | refine zG ?_ | refine zU ?_ | refine zG0 ?_ | refine zU0 ?_ | refine zF ?_)
    | ((with_reducible refine acall_id ?_); refine ACall.box (pick_c _ _ [4, 1001] (by simp) (by simp)) rfl rfl rfl ?_; rintro _ _ ⟨k1, rfl, hk1⟩)
    | (have hq1 : 0 < k1 ∧ k1 ≤ 1001 := (by simp at hk1; omega); clear hk1)
    | ((with_reducible refine acall_id ?_); refine ACall.box (upp_c _ _ _ (by omega) (by omega)) rfl rfl rfl ?_; rintro _ _ ⟨_, rfl, _, _⟩)
    | ((with_reducible refine acall_id ?_); refine ACall.box (one_c _ _ _ (by omega)) rfl rfl rfl ?_; rintro _ _ ⟨b1, rfl⟩)
    | with_reducible (first | refine zX ?_ | refine zD fun _ => ?_ | refine zD0 ?_ | refine zN ?_ | refine zF0 ?_ | refine zX0 ?_ | refine z1 ?_ | refine z2 ?_ | refine z3 ?_ | refine z4 ?_ | refine z5 ?_ | refine z6 ?_ | refine z7 ?_ | refine z8 ?_ | refine y1 ?_ | refine y2 ?_ | refine y3 ?_ | refine y4 ?_ | refine y5 ?_ | refine y6 ?_ | refine y7 ?_ | refine y8 ?_ | refine Rt.p (fun _ => ?_) fun _ => ?_)
    | ((with_reducible apply w_ixM); (focus exact rfl); (focus exact rfl); case' hk => intro y hy) | ((with_reducible (first | apply w_val | apply q_ends)); (focus exact rfl)))
  all_goals
    refine q_loop (_, _, _, _) ?_ ?_ (by repeat' (first | exact slots_nil | apply slots_cons | rfl | (rw [map_snoc]; rfl) | (rw [len_snoc]; rfl) | (rw [hS]; rfl) | (rw [hS, map_snoc]; rfl) | (refine int_eq ?_; (try dsimp only); omega) | (refine congrArg AV.bool ?_; simp_all; done))) (by repeat' (first | exact slots_nil | apply slots_cons | rfl | (rw [map_snoc]; rfl) | (rw [len_snoc]; rfl) | (rw [hS]; rfl) | (rw [hS, map_snoc]; rfl) | (refine int_eq ?_; (try dsimp only); omega) | (refine congrArg AV.bool ?_; simp_all; done))) (by repeat' (first | exact kept_nil | apply kept_cons | rfl)) (by repeat' (first | exact kept_nil | apply kept_cons | rfl))
    · refine ⟨fun d hd' => ?_, by dsimp only; omega, by simp; omega⟩
      rcases List.mem_append.1 hd' with hd' | hd'
      · exact hd d hd'
      · simp at hd'; subst hd'; exact dErr_ok (by first | omega | exact ⟨Int.natCast_nonneg _, (by have : (ds.length : Int) ≤ 3 := by omega
                                                                                                   exact this)⟩) (by omega) (by omega)
    · dsimp only; omega
theorem gsErr_each : ∀ {post pre : List Guest}, gsErr pre post = 0 → ∀ g ∈ post, gErr g = 0
  | [], _, _, g, hg => by cases hg
  | x :: post, pre, h, g, hg => by
    rw [gsErr] at h
    split at h
    · rename_i h0
      split at h
      · cases h
      · rcases List.mem_cons.1 hg with rfl | hg
        · exact h0
        · exact gsErr_each h g hg
    · rename_i h0; exact absurd h h0
/-- What a menu costs, and whether it is as it has to be. -/
def turnsOK (ds : List Dish) : Nat → List Int → Bool
  | _, [] => true
  | k, i :: r => decide ((dAt ds i).turn = k) && turnsOK ds (k + 1) r
def fedP (l : List Guest) (ds : List Dish) (m : List Int) (need : Int) : Int × Bool :=
  if turnsOK ds 0 m = true ∧ enoughB l ds m need = true then (costM ds m, true) else (0, false)
theorem Eats_ok (g : Guest) (d : Dish) (hs : g.name.size ≤ 1000) (hg : gErr g = 0) (hd : dErr d = 0) : Fn0 Try.prog 26 [gA g, dA d] (fun v => v = .tup [.int .i64 (eatsV g d), .int .i64 0]) :=
  (Eats_c g d hs).mono fun v _ h => by rw [h, eatsP, if_neg (by omega), if_neg (by omega)]
theorem fed_c (l : List Guest) (ds : List Dish) (m : List Int) (need : Int) (hl0 : l.length < 1000) (hg : gsErr [] l = 0) (hs : ∀ g ∈ l, g.name.size ≤ 1000) (hok : dsOK ds) (hm0 : m.length < 1000) (hm : ∀ i ∈ m, 0 ≤ i ∧ i < ds.length) :
    Fn0 Try.prog 28 [.slc 5 (gR l) .non, .slc 3 (dR ds) .non, .slc 1 (iR m) .non, .int .i64 need] (fun v => v = .tup [.int .i64 (fedP l ds m need).1, .bool (fedP l ds m need).2]) := by
  have fin : ∀ {x y : Int × Bool}, x = y → AV.tup [.int .i64 x.1, .bool x.2] = AV.tup [.int .i64 y.1, .bool y.2] := fun h => by rw [h]
  have hbad1 : ∀ {pre : List Int} {i : Int} {post : List Int} {k : Nat}, m = pre ++ i :: post → pre.length = k → ¬ (dAt ds i).turn = k → fedP l ds m need = (0, false) := by
    intro pre i post k h1 h2 h3
    rw [fedP, if_neg]
    rintro ⟨h4, _⟩
    have key : ∀ (pre : List Int) (j : Nat), turnsOK ds j (pre ++ i :: post) = true → (dAt ds i).turn = (j + pre.length : Nat) := by
      intro pre
      induction pre with
      | nil => intro j h; simp [turnsOK] at h; simpa using h.1
      | cons x pre ih => intro j h; simp [turnsOK] at h; have := ih _ h.2; rw [this, List.length_cons]; omega
    rw [h1] at h4
    have := key pre 0 h4
    rw [h2] at this; exact h3 (by simpa using this)
  refine RawC.walk (H := hint28 Try.prog) ir28 Try.func28 rfl rfl rfl ?_
  unfold ir28
  repeat' (first
    | with_reducible (first | refine Rd.p ?_ | refine zE ?_ | refine zE0 ?_)
    | with_reducible (first | refine zI fun y hy => ?_ | refine zL ?_ | refine zS ?_ | refine zA fun _ => ?_ | refine zV ?_ | refine zC ?_ | refine zG ?_ | refine zU ?_ | refine zG0 ?_ | refine zU0 ?_ | refine zF ?_)
    | with_reducible (first | refine zX ?_ | refine zD fun _ => ?_ | refine zD0 ?_ | refine zN ?_ | refine zF0 ?_ | refine zX0 ?_ | refine z1 ?_ | refine z2 ?_ | refine z3 ?_ | refine z4 ?_ | refine z5 ?_ | refine z6 ?_ | refine z7 ?_ | refine z8 ?_ | refine y1 ?_ | refine y2 ?_ | refine y3 ?_ | refine y4 ?_ | refine y5 ?_ | refine y6 ?_ | refine y7 ?_ | refine y8 ?_ | refine Rt.p (fun _ => ?_) fun _ => ?_)
    | ((with_reducible apply w_ixM); (focus exact rfl); (focus exact rfl); case' hk => intro y hy) | ((with_reducible (first | apply w_val | apply q_ends)); (focus exact rfl)))
  refine w_loopK [0, 1, 2, 3] [] (fun x : List Int × List Int => m = x.1 ++ x.2 ∧ turnsOK ds 0 m = turnsOK ds x.1.length x.2) (fun x => x.2.length) (fun x => [(11, .int .i64 x.1.length), (10, .int .i64 (costM ds x.1))]) (fun _ => []) ([], m) ⟨rfl, rfl⟩ ⟨rfl, rfl, trivial⟩ trivial ?_
  rintro ⟨pre, post⟩ ⟨hl, hb⟩ e σ
  dsimp only at hl hb ⊢
  have hlen := congrArg List.length hl
  have hcb := costM_bd hok pre
  cases post with
  | cons i post =>
    simp only [List.length_append, List.length_cons] at hlen
    have hi := hm i (by rw [hl]; simp)
    have hsn := costM_snoc ds i pre
    have hdc := dAt_cost hok i
    repeat' (first
      | with_reducible (first | refine Rd.p ?_ | refine zE ?_ | refine zE0 ?_)
      | (refine w_ixP hl rfl rfl ?_)
      | with_reducible (first | refine zI fun y hy => ?_ | refine zL ?_ | refine zS ?_ | refine zA fun _ => ?_)
      | ((with_reducible apply w_ixM); (focus exact rfl); (focus exact rfl); (focus ((repeat' (with_reducible (first | exact trivial | apply And.intro))) <;> (first | (have hh : dAt ds i = y := (by simp [dAt, hy]); rw [hh] at hdc; unfold inI; omega) | exact sd))); case' hk => intro y hy) | ((with_reducible apply w_slM); (focus exact rfl); (focus exact rfl); (focus exact rfl); (focus ((repeat' (with_reducible (first | exact trivial | apply And.intro))) <;> (first | (have hh : dAt ds i = y := (by simp [dAt, hy]); rw [hh] at hdc; unfold inI; omega) | exact sd)))) | ((with_reducible apply w_val); (focus exact rfl); (focus ((repeat' (with_reducible (first | exact trivial | apply And.intro))) <;> (first | (have hh : dAt ds i = y := (by simp [dAt, hy]); rw [hh] at hdc; unfold inI; omega) | exact sd)))) | ((with_reducible apply w_det); (focus exact fun _ => rfl); (focus ((repeat' (with_reducible (first | exact trivial | apply And.intro))) <;> (first | (have hh : dAt ds i = y := (by simp [dAt, hy]); rw [hh] at hdc; unfold inI; omega) | exact sd))); case' hk => intro _) | ((with_reducible apply w_det0); (focus exact fun _ => rfl); (focus ((repeat' (with_reducible (first | exact trivial | apply And.intro))) <;> (first | (have hh : dAt ds i = y := (by simp [dAt, hy]); rw [hh] at hdc; unfold inI; omega) | exact sd)))) | ((with_reducible apply q_ends); (focus exact rfl); (focus ((repeat' (with_reducible (first | exact trivial | apply And.intro))) <;> (first | (have hh : dAt ds i = y := (by simp [dAt, hy]); rw [hh] at hdc; unfold inI; omega) | exact sd))))
      | with_reducible (first | refine zI fun y hy => ?_ | refine zL ?_ | refine zS ?_ | refine zA fun _ => ?_ | refine zV ?_ | refine zC ?_ | refine zG ?_ | refine zU ?_ | refine zG0 ?_ | refine zU0 ?_ | refine zF ?_)
      | with_reducible (first | refine zX ?_ | refine zD fun _ => ?_ | refine zD0 ?_ | refine zN ?_ | refine zF0 ?_ | refine zX0 ?_ | refine z1 ?_ | refine z2 ?_ | refine z3 ?_ | refine z4 ?_ | refine z5 ?_ | refine z6 ?_ | refine z7 ?_ | refine z8 ?_ | refine y1 ?_ | refine y2 ?_ | refine y3 ?_ | refine y4 ?_ | refine y5 ?_ | refine y6 ?_ | refine y7 ?_ | refine y8 ?_ | refine Rt.p (fun _ => ?_) fun _ => ?_)
      | ((with_reducible apply w_ixM); (focus exact rfl); (focus exact rfl); case' hk => intro y hy) | ((with_reducible (first | apply w_val | apply q_ends)); (focus exact rfl)))
    · rename_i h1
      rw [hbad1 hl rfl (by rw [show dAt ds i = y by simp [dAt, hy]]; omega)]; rfl
    · rename_i y2 hy2 h1
      have hd1 : dAt ds i = y := by simp [dAt, hy]
      have hd2 : dAt ds i = y2 := by simp [dAt, hy2]
      rw [hd1] at hsn
      refine zQ (pre ++ [i], post) ?_ ?_
      · refine ⟨by rw [hl]; simp, ?_⟩
        rw [hb, len_snoc, turnsOK, hd2]; simp; omega
      · simp
  | nil =>
    simp only [List.append_nil, List.length_append, List.length_nil] at hlen hl
    subst hl
    have ht : turnsOK ds 0 m = true := hb
    repeat' (first
      | with_reducible (first | refine Rd.p ?_ | refine zE ?_ | refine zE0 ?_)
      | with_reducible (first | refine zI fun y hy => ?_ | refine zL ?_ | refine zS ?_ | refine zA fun _ => ?_ | refine zV ?_ | refine zC ?_ | refine zG ?_ | refine zU ?_ | refine zG0 ?_ | refine zU0 ?_ | refine zF ?_)
      | with_reducible (first | refine zX ?_ | refine zD fun _ => ?_ | refine zD0 ?_ | refine zN ?_ | refine zF0 ?_ | refine zX0 ?_ | refine z1 ?_ | refine z2 ?_ | refine z3 ?_ | refine z4 ?_ | refine z5 ?_ | refine z6 ?_ | refine z7 ?_ | refine z8 ?_ | refine y1 ?_ | refine y2 ?_ | refine y3 ?_ | refine y4 ?_ | refine y5 ?_ | refine y6 ?_ | refine y7 ?_ | refine y8 ?_ | refine Rt.p (fun _ => ?_) fun _ => ?_)
      | ((with_reducible apply w_ixM); (focus exact rfl); (focus exact rfl); case' hk => intro y hy) | ((with_reducible (first | apply w_val | apply q_ends)); (focus exact rfl)))
    refine w_loopK [0, 1, 2, 3, 10] [] (fun x : List Guest × List Guest => l = x.1 ++ x.2 ∧ x.1.all (fun g => decide (need ≤ eatN ds g m)) = true) (fun x => x.2.length) (fun x => [(12, .int .i64 x.1.length)]) (fun _ => []) ([], l) ⟨rfl, rfl⟩ ⟨rfl, trivial⟩ trivial ?_
    rintro ⟨pre, post⟩ ⟨hl, hb⟩ e σ
    dsimp only at hl hb ⊢
    have hlen := congrArg List.length hl
    cases post with
    | nil =>
      simp only [List.append_nil, List.length_append, List.length_nil] at hlen
      have he : enoughB l ds m need = true := by unfold enoughB; rw [hl, List.append_nil, hb]
      repeat' (first
        | with_reducible (first | refine Rd.p ?_ | refine zE ?_ | refine zE0 ?_)
        | with_reducible (first | refine zI fun y hy => ?_ | refine zL ?_ | refine zS ?_ | refine zA fun _ => ?_ | refine zV ?_ | refine zC ?_ | refine zG ?_ | refine zU ?_ | refine zG0 ?_ | refine zU0 ?_ | refine zF ?_)
        | with_reducible (first | refine zX ?_ | refine zD fun _ => ?_ | refine zD0 ?_ | refine zN ?_ | refine zF0 ?_ | refine zX0 ?_ | refine z1 ?_ | refine z2 ?_ | refine z3 ?_ | refine z4 ?_ | refine z5 ?_ | refine z6 ?_ | refine z7 ?_ | refine z8 ?_ | refine y1 ?_ | refine y2 ?_ | refine y3 ?_ | refine y4 ?_ | refine y5 ?_ | refine y6 ?_ | refine y7 ?_ | refine y8 ?_ | refine Rt.p (fun _ => ?_) fun _ => ?_)
        | ((with_reducible apply w_ixM); (focus exact rfl); (focus exact rfl); case' hk => intro y hy) | ((with_reducible (first | apply w_val | apply q_ends)); (focus exact rfl)))
      rw [fedP, if_pos ⟨ht, he⟩]; rfl
    | cons c post =>
      simp only [List.length_append, List.length_cons] at hlen
      repeat' (first
        | with_reducible (first | refine Rd.p ?_ | refine zE ?_ | refine zE0 ?_)
        | with_reducible (first | refine zI fun y hy => ?_ | refine zL ?_ | refine zS ?_ | refine zA fun _ => ?_ | refine zV ?_ | refine zC ?_ | refine zG ?_ | refine zU ?_ | refine zG0 ?_ | refine zU0 ?_ | refine zF ?_)
        | with_reducible (first | refine zX ?_ | refine zD fun _ => ?_ | refine zD0 ?_ | refine zN ?_ | refine zF0 ?_ | refine zX0 ?_ | refine z1 ?_ | refine z2 ?_ | refine z3 ?_ | refine z4 ?_ | refine z5 ?_ | refine z6 ?_ | refine z7 ?_ | refine z8 ?_ | refine y1 ?_ | refine y2 ?_ | refine y3 ?_ | refine y4 ?_ | refine y5 ?_ | refine y6 ?_ | refine y7 ?_ | refine y8 ?_ | refine Rt.p (fun _ => ?_) fun _ => ?_)
        | ((with_reducible apply w_ixM); (focus exact rfl); (focus exact rfl); case' hk => intro y hy) | ((with_reducible (first | apply w_val | apply q_ends)); (focus exact rfl)))
      refine w_loopK [0, 1, 2, 3, 10, 12] [] (fun x : List Int × List Int => m = x.1 ++ x.2) (fun x => x.2.length) (fun x => [(14, .int .i64 x.1.length), (13, .int .i64 (eatN ds c x.1))]) (fun _ => []) ([], m) rfl ⟨rfl, rfl, trivial⟩ trivial ?_
      rintro ⟨pre1, post1⟩ hl1 e σ
      dsimp only at hl1 ⊢
      have hlen1 := congrArg List.length hl1
      have hbd := eatN_bd ds c pre1
      cases post1 with
      | nil =>
        simp only [List.append_nil, List.length_append, List.length_nil] at hlen1 hl1
        subst hl1
        repeat' (first
          | with_reducible (first | refine Rd.p ?_ | refine zE ?_ | refine zE0 ?_)
          | with_reducible (first | refine zI fun y hy => ?_ | refine zL ?_ | refine zS ?_ | refine zA fun _ => ?_ | refine zV ?_ | refine zC ?_ | refine zG ?_ | refine zU ?_ | refine zG0 ?_ | refine zU0 ?_ | refine zF ?_)
          | with_reducible (first | refine zX ?_ | refine zD fun _ => ?_ | refine zD0 ?_ | refine zN ?_ | refine zF0 ?_ | refine zX0 ?_ | refine z1 ?_ | refine z2 ?_ | refine z3 ?_ | refine z4 ?_ | refine z5 ?_ | refine z6 ?_ | refine z7 ?_ | refine z8 ?_ | refine y1 ?_ | refine y2 ?_ | refine y3 ?_ | refine y4 ?_ | refine y5 ?_ | refine y6 ?_ | refine y7 ?_ | refine y8 ?_ | refine Rt.p (fun _ => ?_) fun _ => ?_)
          | ((with_reducible apply w_ixM); (focus exact rfl); (focus exact rfl); case' hk => intro y hy) | ((with_reducible (first | apply w_val | apply q_ends)); (focus exact rfl)))
        · rename_i h1
          rw [fedP, if_neg (by rintro ⟨_, h2⟩; unfold enoughB at h2; rw [hl, List.all_append] at h2; simp at h2; omega)]; rfl
        · refine zQ (pre ++ [c], post) ?_ ?_
          · exact ⟨by rw [hl]; simp, by rw [List.all_append, hb]; simp; omega⟩
          · simp
      | cons i post1 =>
        simp only [List.length_append, List.length_cons] at hlen1
        have hi := hm i (by rw [hl1]; simp)
        have hsn := eatN_snoc ds c i pre1
        have hc0 : gErr c = 0 := gsErr_each hg c (by rw [hl]; simp)
        have hcs := hs c (by rw [hl]; simp)
        repeat' (first
          | with_reducible (first | refine Rd.p ?_ | refine zE ?_ | refine zE0 ?_)
          | (first | refine w_ixP hl rfl rfl ?_ | refine w_ixP hl1 rfl rfl ?_)
          | with_reducible (first | refine zI fun y hy => ?_ | refine zL ?_ | refine zS ?_ | refine zA fun _ => ?_ | refine zV ?_ | refine zC ?_ | refine zG ?_ | refine zU ?_ | refine zG0 ?_ | refine zU0 ?_ | refine zF ?_)
          | ((with_reducible refine acall_id ?_); refine ACall.val (Eats_ok _ _ hcs hc0 (hok _ (List.mem_of_getElem? hy))) rfl rfl ?_)
          | with_reducible (first | refine zX ?_ | refine zD fun _ => ?_ | refine zD0 ?_ | refine zN ?_ | refine zF0 ?_ | refine zX0 ?_ | refine z1 ?_ | refine z2 ?_ | refine z3 ?_ | refine z4 ?_ | refine z5 ?_ | refine z6 ?_ | refine z7 ?_ | refine z8 ?_ | refine y1 ?_ | refine y2 ?_ | refine y3 ?_ | refine y4 ?_ | refine y5 ?_ | refine y6 ?_ | refine y7 ?_ | refine y8 ?_ | refine Rt.p (fun _ => ?_) fun _ => ?_)
          | ((with_reducible apply w_ixM); (focus exact rfl); (focus exact rfl); case' hk => intro y hy) | ((with_reducible (first | apply w_val | apply q_ends)); (focus exact rfl)))
        · rename_i h1
          rw [show dAt ds i = y by simp [dAt, hy], if_pos h1] at hsn
          refine zQ (pre1 ++ [i], post1) ?_ ?_
          · rw [hl1]; simp
          · simp
        · rename_i h1
          rw [show dAt ds i = y by simp [dAt, hy], if_neg h1] at hsn
          refine zQ (pre1 ++ [i], post1) ?_ ?_
          · rw [hl1]; simp
          · simp
end Go.Abs
