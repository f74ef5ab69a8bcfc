/- A part of the proofs of the laws of this seat: contracts of the functions that they reach, each proved of the program's form in Lean. No condition beyond those that each contract names. -/
import Derived.Test.YtcgcciegekaliaaB0
import Derived.Test.YtcgcciegekaliaaB1
import Derived.Test.YtcgcciegekaliaaB2
import Derived.Test.YtcgcciegekaliaaB4
import Derived.Test.YtcgcciegekaliaaB5
import Derived.Test.YtcgcciegekaliaaB7
import Derived.Test.YtcgcciegekaliaaB8
import Derived.Test.YtcgcciegekaliaaB9
import Derived.Test.YtcgcciegekaliaaB10
import Derived.Test.YtcgcciegekaliaaB11
import Derived.Test.YtcgcciegekaliaaB12
import Derived.Test.YtcgcciegekaliaaB13a
import Derived.Test.YtcgcciegekaliaaB14a
import Derived.Test.YtcgcciegekaliaaB15a
import Derived.Test.YtcgcciegekaliaaB16
import Derived.Test.YtcgcciegekaliaaB17
import Derived.Test.YtcgcciegekaliaaB18
import Derived.Test.YtcgcciegekaliaaB19a
import Derived.Test.YtcgcciegekaliaaB20
import Derived.Test.YtcgcciegekaliaaB22
import Derived.Test.YtcgcciegekaliaaB23
import Derived.Test.YtcgcciegekaliaaB25
import Derived.Test.YtcgcciegekaliaaB26
import Derived.Test.YtcgcciegekaliaaB30
import Derived.Test.YtcgcciegekaliaaB51
import Derived.Test.YtcgcciegekaliaaB57
import Derived.Test.YtcgcciegekaliaaB58
set_option linter.unusedVariables false
set_option linter.unusedSimpArgs false
set_option maxRecDepth 20000
set_option maxHeartbeats 1600000
/-! ### SeatAll -/
namespace Go.Abs
open Go.Proofs
section
variable {P : Program}
theorem mvS_row {i g j h k x : Nat} {σ : Sig} {c c' : List AV} (hs : σ k = (x, .row c)) (h1 : k ≠ j) (h2 : k ≠ i) (hc : mvL i g j h c = c') : mvS i g j h σ k = (x, .row c') := by simp [mvS, h1, h2, hs, mvR, hc]
theorem rowsT_slots {p q : Nat} {A B : Nat × Res} {b n : Nat} {hs : Nat → Nat} {f : Nat → Nat → Int} {σ : Sig} (hp : p < 5000) (hq : q < 5000) (hpq : p ≠ q) : slots (rowsT p q A B b n hs f) (updL (rowsT p q A B b n hs f) σ) := by
  refine ⟨by rw [rowsT, updL, upd_eq, if_pos rfl], by rw [rowsT, updL, updL, upd_eq, if_neg (Ne.symm hpq), upd_eq, if_pos rfl], slots_rows.2 fun k hk => rowsT_get hp hq hk⟩
theorem slots_mve {p q i g a n h : Nat} {B' : List AV} {hs : Nat → Nat} {f : Nat → Nat → Int} {σ : Sig} {gp gq : Nat} (hp : p < 5000) (hq : q < 5000) (hi : i < 5000) (hpi : p ≠ i) (hqi : q ≠ i)
    (h1 : σ p = (gp, .row (cellsR n a hs ++ .msl i g n 1 :: List.replicate (n - a - 1) .nsl))) (h2 : σ q = (gq, .row B')) (hB : mvL i g (5000 + a) h B' = B') (ha : a < n) (h3 : ∀ k < a, σ (5000 + k) = (hs k, .row (rowI n (f k)))) (h4 : σ i = (g, .row (rowI n (f a)))) :
    slots (rowsT p q (gp, .row (cellsR n (a + 1) (upd hs a h) ++ List.replicate (n - (a + 1)) .nsl)) (gq, .row B') (a + 1) n (upd hs a h) f) (mvS i g (5000 + a) h σ) := by
  refine ⟨mvS_row h1 (by omega) hpi (cells_mv hi ha), mvS_keep h2 (by omega) hqi hB, slots_rows.2 fun k hk => ?_⟩
  by_cases e : k = a
  · subst e
    rw [upd_eq, if_pos rfl]; exact mvS_at h4 (mvL_row ..)
  · rw [upd_eq, if_neg e]
    exact mvS_keep (h3 k (by omega)) (by omega) (by omega) (mvL_row ..)
/-- A row's place is read. -/
theorem w_ldCell {K : (Nat → AV) → Sig → Prop} {e : Nat → AV} {σ : Sig} {x : IOpd} {d : Nat} {r : List IStep} {i g a n : Nat} {y : Int} {hs : Nat → Nat} (hx : x.ev e = .ref i g (y.toNat * 1)) (hσ : σ i = (g, .row (cellsR n a hs))) (hy : y.toNat < a)
    (hk : stepsW P r K (upd e d (.msl (5000 + y.toNat) (hs y.toNat) n 1)) σ) : stepsW P (⟨some d, none, .ld 1 false x⟩ :: r) K e σ :=
  w_ldAt hx hσ (by rw [Nat.mul_one]; exact cellsR_get hs hy) rfl hk
end
theorem vdI_1 (c n : Int) : (decide (vdI c n = 1) == decide (c = n)) = true := by
  unfold vdI
  by_cases h : c = n
  · rw [if_pos h, decide_eq_true h]; rfl
  · rw [if_neg h, decide_eq_false h]; split <;> rfl
theorem vdI_2 (c n : Int) (hn : n ≠ 0) : (decide (vdI c n = 2) == decide (c = 0)) = true := by
  unfold vdI
  by_cases h : c = n
  · rw [if_pos h, decide_eq_false (show ¬ c = 0 by omega)]; rfl
  · rw [if_neg h]
    by_cases h2 : c = 0
    · rw [if_pos h2, decide_eq_true h2]; rfl
    · rw [if_neg h2, decide_eq_false h2]; rfl
/-- aloeswood/aloeswoodlaw08.SeatAll -/
def ir9 : IFn :=
  ⟨275, [(2, none)], (.seq (.ops [⟨(some 2), none, (.mov (.k (.bool false)))⟩])
  (.seq (.ops [⟨(some 24), none, (.mov (.t 0))⟩,
    ⟨(some 25), none, (.callF 17 [(.t 24)])⟩,
    ⟨(some 26), none, (.callF 29 [(.t 25), (.k (.int .i64 5)), (.k (.int .i64 6))])⟩,
    ⟨(some 3), none, (.new [.nsl, .nsl])⟩,
    ⟨none, none, (.st 2 (.t 3) (.t 26))⟩])
  (.seq (.ops [⟨(some 28), none, (.ld 2 true (.t 3))⟩,
    ⟨(some 29), none, (.callF 32 [(.t 28)])⟩,
    ⟨(some 27), none, (.mov (.t 29))⟩,
    ⟨(some 30), none, (.ext 0 (.t 27))⟩,
    ⟨(some 31), none, (.ext 1 (.t 27))⟩,
    ⟨(some 4), none, (.mov (.t 30))⟩,
    ⟨(some 5), none, (.mov (.t 31))⟩])
  (.seq (.ops [⟨(some 33), none, (.ld 2 true (.t 3))⟩,
    ⟨(some 34), none, (.callF 33 [(.t 33)])⟩,
    ⟨(some 32), none, (.mov (.t 34))⟩,
    ⟨(some 35), none, (.ext 0 (.t 32))⟩,
    ⟨(some 36), none, (.ext 1 (.t 32))⟩,
    ⟨(some 37), none, (.ext 2 (.t 32))⟩,
    ⟨(some 6), none, (.mov (.t 35))⟩,
    ⟨(some 7), none, (.mov (.t 36))⟩,
    ⟨(some 8), none, (.mov (.t 37))⟩])
  (.seq (.ops [⟨(some 39), none, (.ld 2 true (.t 3))⟩,
    ⟨(some 40), none, (.callF 45 [(.t 39)])⟩,
    ⟨(some 38), none, (.mov (.t 40))⟩,
    ⟨(some 41), none, (.ext 0 (.t 38))⟩,
    ⟨(some 42), none, (.ext 1 (.t 38))⟩,
    ⟨(some 9), none, (.mov (.t 41))⟩,
    ⟨(some 10), none, (.mov (.t 42))⟩])
  (.seq (.seq (.ops [⟨(some 43), none, (.mov (.t 5))⟩,
    ⟨(some 44), none, (.bin .neq (.t 43) (.k (.int .i64 0)))⟩,
    ⟨(some 45), none, (.mov (.t 44))⟩,
    ⟨(some 46), (some (45, false)), (.mov (.t 4))⟩,
    ⟨(some 47), (some (45, false)), (.bin .eql (.t 46) (.k (.int .i64 0)))⟩,
    ⟨(some 48), (some (45, false)), (.mov (.t 47))⟩,
    ⟨(some 49), (some (48, true)), (.mov (.t 8))⟩,
    ⟨(some 50), (some (48, true)), (.bin .neq (.t 49) (.k (.int .i64 12)))⟩,
    ⟨(some 51), (some (48, true)), (.mov (.t 50))⟩,
    ⟨(some 52), (some (51, false)), (.mov (.t 10))⟩,
    ⟨(some 53), (some (51, false)), (.bin .neq (.t 52) (.k (.int .i64 12)))⟩,
    ⟨(some 54), (some (48, true)), (.pick (.t 51) (.k (.bool true)) (.t 53))⟩,
    ⟨(some 55), (some (45, false)), (.pick (.t 48) (.t 54) (.k (.bool false)))⟩,
    ⟨(some 56), none, (.pick (.t 45) (.k (.bool true)) (.t 55))⟩,
    ⟨(some 57), none, (.mov (.t 56))⟩,
    ⟨(some 58), (some (57, false)), (.mov (.t 4))⟩,
    ⟨(some 59), (some (57, false)), (.bin .gtr (.t 58) (.k (.int .i64 0)))⟩,
    ⟨(some 60), (some (57, false)), (.mov (.t 59))⟩,
    ⟨(some 61), (some (60, true)), (.mov (.t 8))⟩,
    ⟨(some 62), (some (60, true)), (.bin .neq (.t 61) (.k (.int .i64 0)))⟩,
    ⟨(some 63), (some (60, true)), (.mov (.t 62))⟩,
    ⟨(some 64), (some (63, false)), (.mov (.t 10))⟩,
    ⟨(some 65), (some (63, false)), (.bin .neq (.t 64) (.k (.int .i64 0)))⟩,
    ⟨(some 66), (some (60, true)), (.pick (.t 63) (.k (.bool true)) (.t 65))⟩,
    ⟨(some 67), (some (60, true)), (.mov (.t 66))⟩,
    ⟨(some 68), (some (67, false)), (.mov (.t 9))⟩,
    ⟨(some 69), (some (67, false)), (.flA 0 (.t 3))⟩,
    ⟨(some 70), (some (67, false)), (.ld 1 false (.t 69))⟩,
    ⟨(some 71), (some (67, false)), (.len false (.t 70))⟩,
    ⟨(some 72), (some (67, false)), (.callF 48 [(.t 68), (.t 71)])⟩,
    ⟨(some 73), (some (67, false)), (.not (.t 72))⟩,
    ⟨(some 74), (some (60, true)), (.pick (.t 67) (.k (.bool true)) (.t 73))⟩,
    ⟨(some 75), (some (57, false)), (.pick (.t 60) (.t 74) (.k (.bool false)))⟩,
    ⟨(some 76), none, (.pick (.t 57) (.k (.bool true)) (.t 75))⟩])
  (.cnd (.t 76)
    (.seq (.ops [⟨(some 2), none, (.mov (.k (.bool false)))⟩])
    .ret)
    .skip))
  (.seq (.ops [⟨(some 77), none, (.flA 0 (.t 3))⟩,
    ⟨(some 78), none, (.ld 1 false (.t 77))⟩,
    ⟨(some 79), none, (.len false (.t 78))⟩,
    ⟨(some 80), none, (.mks 1 24 [.nsl] (.t 79) (.t 79))⟩,
    ⟨(some 11), none, (.mov (.t 80))⟩])
  (.seq (.seq (.ops [⟨(some 12), none, (.mov (.k (.int .i64 0)))⟩])
  (.blk 0 (.loop (.seq (.seq (.ops [⟨(some 81), none, (.mov (.t 12))⟩,
        ⟨(some 82), none, (.mov (.t 11))⟩,
        ⟨(some 83), none, (.len false (.t 82))⟩,
        ⟨(some 84), none, (.bin .lss (.t 81) (.t 83))⟩])
      (.cnd (.t 84)
        .skip
        (.exit 0)))
      (.seq (.blk 1 (.ops [⟨(some 87), none, (.mov (.t 11))⟩,
          ⟨(some 88), none, (.mov (.t 12))⟩,
          ⟨(some 89), none, (.mov (.t 11))⟩,
          ⟨(some 90), none, (.len false (.t 89))⟩,
          ⟨(some 91), none, (.mks 1 8 [(.int .i64 0)] (.t 90) (.t 90))⟩,
          ⟨(some 92), none, (.ixA 1 (.t 87) (.t 88))⟩,
          ⟨none, none, (.st 1 (.t 92) (.t 91))⟩]))
      (.seq (.mve (.t 91))
      (.ops [⟨(some 85), none, (.mov (.t 12))⟩,
        ⟨(some 86), none, (.bin .add (.t 85) (.k (.int .i64 1)))⟩,
        ⟨(some 12), none, (.mov (.t 86))⟩])))))))
  (.seq (.ops [⟨(some 93), none, (.flA 0 (.t 3))⟩,
    ⟨(some 94), none, (.ld 1 false (.t 93))⟩,
    ⟨(some 95), none, (.len false (.t 94))⟩,
    ⟨(some 96), none, (.callF 49 [(.t 95), (.k .nsl)])⟩,
    ⟨(some 13), none, (.mov (.t 96))⟩,
    ⟨(some 14), none, (.mov (.k (.int .i64 0)))⟩,
    ⟨(some 15), none, (.mov (.k (.bool false)))⟩])
  (.seq (.seq (.ops [⟨(some 16), none, (.mov (.k (.int .i64 0)))⟩])
  (.blk 2 (.loop (.seq (.seq (.ops [⟨(some 97), none, (.mov (.t 16))⟩,
        ⟨(some 98), none, (.mov (.t 13))⟩,
        ⟨(some 99), none, (.len false (.t 98))⟩,
        ⟨(some 100), none, (.bin .lss (.t 97) (.t 99))⟩])
      (.cnd (.t 100)
        .skip
        (.exit 2)))
      (.seq (.blk 3 (.seq (.ops [⟨(some 104), none, (.ld 2 true (.t 3))⟩,
          ⟨(some 105), none, (.mov (.t 13))⟩,
          ⟨(some 106), none, (.mov (.t 16))⟩,
          ⟨(some 107), none, (.ixA 1 (.t 105) (.t 106))⟩,
          ⟨(some 108), none, (.ld 1 false (.t 107))⟩,
          ⟨(some 109), none, (.callF 37 [(.t 104), (.t 108)])⟩,
          ⟨(some 103), none, (.mov (.t 109))⟩,
          ⟨(some 110), none, (.ext 0 (.t 103))⟩,
          ⟨(some 111), none, (.ext 1 (.t 103))⟩,
          ⟨(some 112), none, (.ext 2 (.t 103))⟩,
          ⟨(some 17), none, (.mov (.t 110))⟩,
          ⟨(some 18), none, (.mov (.t 111))⟩,
          ⟨(some 19), none, (.mov (.t 112))⟩])
        (.seq (.seq (.ops [⟨(some 113), none, (.mov (.t 19))⟩,
          ⟨(some 114), none, (.bin .neq (.t 113) (.k (.int .i64 0)))⟩])
        (.cnd (.t 114)
          (.seq (.ops [⟨(some 2), none, (.mov (.k (.bool false)))⟩])
          .ret)
          .skip))
        (.seq (.seq (.ops [⟨(some 115), none, (.ld 2 true (.t 3))⟩,
          ⟨(some 116), none, (.mov (.t 17))⟩,
          ⟨(some 117), none, (.callF 50 [(.t 115), (.t 116)])⟩,
          ⟨(some 118), none, (.not (.t 117))⟩])
        (.cnd (.t 118)
          (.exit 3)
          .skip))
        (.seq (.ops [⟨(some 119), none, (.mov (.t 14))⟩,
          ⟨(some 120), none, (.bin .add (.t 119) (.k (.int .i64 1)))⟩,
          ⟨(some 14), none, (.mov (.t 120))⟩])
        (.seq (.seq (.ops [⟨(some 121), none, (.mov (.t 18))⟩,
          ⟨(some 122), none, (.mov (.t 7))⟩,
          ⟨(some 123), none, (.bin .lss (.t 121) (.t 122))⟩,
          ⟨(some 124), none, (.mov (.t 123))⟩,
          ⟨(some 125), (some (124, false)), (.mov (.t 18))⟩,
          ⟨(some 126), (some (124, false)), (.mov (.t 7))⟩,
          ⟨(some 127), (some (124, false)), (.bin .eql (.t 125) (.t 126))⟩,
          ⟨(some 128), (some (124, false)), (.mov (.t 127))⟩,
          ⟨(some 129), (some (128, true)), (.mov (.t 13))⟩,
          ⟨(some 130), (some (128, true)), (.mov (.t 16))⟩,
          ⟨(some 131), (some (128, true)), (.ixA 1 (.t 129) (.t 130))⟩,
          ⟨(some 132), (some (128, true)), (.ld 1 false (.t 131))⟩,
          ⟨(some 133), (some (128, true)), (.mov (.t 6))⟩,
          ⟨(some 134), (some (128, true)), (.callF 51 [(.t 132), (.t 133)])⟩,
          ⟨(some 135), (some (124, false)), (.pick (.t 128) (.t 134) (.k (.bool false)))⟩,
          ⟨(some 136), none, (.pick (.t 124) (.k (.bool true)) (.t 135))⟩])
        (.cnd (.t 136)
          (.seq (.ops [⟨(some 2), none, (.mov (.k (.bool false)))⟩])
          .ret)
          .skip))
        (.seq (.ops [⟨(some 137), none, (.mov (.t 15))⟩,
          ⟨(some 138), none, (.mov (.t 137))⟩,
          ⟨(some 139), (some (138, false)), (.mov (.t 13))⟩,
          ⟨(some 140), (some (138, false)), (.mov (.t 16))⟩,
          ⟨(some 141), (some (138, false)), (.ixA 1 (.t 139) (.t 140))⟩,
          ⟨(some 142), (some (138, false)), (.ld 1 false (.t 141))⟩,
          ⟨(some 143), (some (138, false)), (.mov (.t 6))⟩,
          ⟨(some 144), (some (138, false)), (.callF 24 [(.t 142), (.t 143)])⟩,
          ⟨(some 145), (some (138, false)), (.mov (.t 144))⟩,
          ⟨(some 146), (some (145, true)), (.mov (.t 18))⟩,
          ⟨(some 147), (some (145, true)), (.mov (.t 7))⟩,
          ⟨(some 148), (some (145, true)), (.bin .eql (.t 146) (.t 147))⟩,
          ⟨(some 149), (some (138, false)), (.pick (.t 145) (.t 148) (.k (.bool false)))⟩,
          ⟨(some 150), none, (.pick (.t 138) (.k (.bool true)) (.t 149))⟩,
          ⟨(some 15), none, (.mov (.t 150))⟩])
        (.seq (.ops [⟨(some 20), none, (.mov (.k (.int .i64 0)))⟩])
        (.blk 4 (.loop (.seq (.seq (.ops [⟨(some 151), none, (.mov (.t 20))⟩,
              ⟨(some 152), none, (.mov (.t 13))⟩,
              ⟨(some 153), none, (.mov (.t 16))⟩,
              ⟨(some 154), none, (.ixA 1 (.t 152) (.t 153))⟩,
              ⟨(some 155), none, (.ld 1 false (.t 154))⟩,
              ⟨(some 156), none, (.len false (.t 155))⟩,
              ⟨(some 157), none, (.bin .lss (.t 151) (.t 156))⟩])
            (.cnd (.t 157)
              .skip
              (.exit 4)))
            (.seq (.blk 5 (.seq (.ops [⟨(some 160), none, (.mov (.t 20))⟩,
                ⟨(some 161), none, (.bin .add (.t 160) (.k (.int .i64 1)))⟩,
                ⟨(some 21), none, (.mov (.t 161))⟩])
              (.blk 6 (.loop (.seq (.seq (.ops [⟨(some 162), none, (.mov (.t 21))⟩,
                    ⟨(some 163), none, (.mov (.t 13))⟩,
                    ⟨(some 164), none, (.mov (.t 16))⟩,
                    ⟨(some 165), none, (.ixA 1 (.t 163) (.t 164))⟩,
                    ⟨(some 166), none, (.ld 1 false (.t 165))⟩,
                    ⟨(some 167), none, (.len false (.t 166))⟩,
                    ⟨(some 168), none, (.bin .lss (.t 162) (.t 167))⟩])
                  (.cnd (.t 168)
                    .skip
                    (.exit 6)))
                  (.seq (.blk 7 (.ops [⟨(some 171), none, (.mov (.t 11))⟩,
                      ⟨(some 172), none, (.mov (.t 13))⟩,
                      ⟨(some 173), none, (.mov (.t 16))⟩,
                      ⟨(some 174), none, (.ixA 1 (.t 172) (.t 173))⟩,
                      ⟨(some 175), none, (.ld 1 false (.t 174))⟩,
                      ⟨(some 176), none, (.mov (.t 20))⟩,
                      ⟨(some 177), none, (.ixA 1 (.t 175) (.t 176))⟩,
                      ⟨(some 178), none, (.ld 1 false (.t 177))⟩,
                      ⟨(some 179), none, (.ixA 1 (.t 171) (.t 178))⟩,
                      ⟨(some 180), none, (.ld 1 false (.t 179))⟩,
                      ⟨(some 181), none, (.mov (.t 13))⟩,
                      ⟨(some 182), none, (.mov (.t 16))⟩,
                      ⟨(some 183), none, (.ixA 1 (.t 181) (.t 182))⟩,
                      ⟨(some 184), none, (.ld 1 false (.t 183))⟩,
                      ⟨(some 185), none, (.mov (.t 21))⟩,
                      ⟨(some 186), none, (.ixA 1 (.t 184) (.t 185))⟩,
                      ⟨(some 187), none, (.ld 1 false (.t 186))⟩,
                      ⟨(some 188), none, (.ixA 1 (.t 180) (.t 187))⟩,
                      ⟨(some 189), none, (.ld 1 false (.t 188))⟩,
                      ⟨(some 190), none, (.bin .add (.t 189) (.k (.int .i64 1)))⟩,
                      ⟨(some 191), none, (.ixA 1 (.t 180) (.t 187))⟩,
                      ⟨none, none, (.st 1 (.t 191) (.t 190))⟩]))
                  (.ops [⟨(some 169), none, (.mov (.t 21))⟩,
                    ⟨(some 170), none, (.bin .add (.t 169) (.k (.int .i64 1)))⟩,
                    ⟨(some 21), none, (.mov (.t 170))⟩])))))))
            (.ops [⟨(some 158), none, (.mov (.t 20))⟩,
              ⟨(some 159), none, (.bin .add (.t 158) (.k (.int .i64 1)))⟩,
              ⟨(some 20), none, (.mov (.t 159))⟩])))))))))))))
      (.ops [⟨(some 101), none, (.mov (.t 16))⟩,
        ⟨(some 102), none, (.bin .add (.t 101) (.k (.int .i64 1)))⟩,
        ⟨(some 16), none, (.mov (.t 102))⟩]))))))
  (.seq (.seq (.ops [⟨(some 192), none, (.mov (.t 14))⟩,
    ⟨(some 193), none, (.mov (.t 4))⟩,
    ⟨(some 194), none, (.bin .neq (.t 192) (.t 193))⟩,
    ⟨(some 195), none, (.mov (.t 194))⟩,
    ⟨(some 196), (some (195, false)), (.mov (.t 15))⟩,
    ⟨(some 197), (some (195, false)), (.mov (.t 4))⟩,
    ⟨(some 198), (some (195, false)), (.bin .gtr (.t 197) (.k (.int .i64 0)))⟩,
    ⟨(some 199), (some (195, false)), (.eqn .bool true (.t 196) (.t 198))⟩,
    ⟨(some 200), none, (.pick (.t 195) (.k (.bool true)) (.t 199))⟩])
  (.cnd (.t 200)
    (.seq (.ops [⟨(some 2), none, (.mov (.k (.bool false)))⟩])
    .ret)
    .skip))
  (.seq (.seq (.ops [⟨(some 22), none, (.mov (.k (.int .i64 0)))⟩])
  (.blk 8 (.loop (.seq (.seq (.ops [⟨(some 201), none, (.mov (.t 22))⟩,
        ⟨(some 202), none, (.mov (.t 11))⟩,
        ⟨(some 203), none, (.len false (.t 202))⟩,
        ⟨(some 204), none, (.bin .lss (.t 201) (.t 203))⟩,
        ⟨(some 205), none, (.mov (.t 204))⟩,
        ⟨(some 206), (some (205, true)), (.mov (.t 4))⟩,
        ⟨(some 207), (some (205, true)), (.bin .gtr (.t 206) (.k (.int .i64 0)))⟩,
        ⟨(some 208), none, (.pick (.t 205) (.t 207) (.k (.bool false)))⟩])
      (.cnd (.t 208)
        .skip
        (.exit 8)))
      (.seq (.blk 9 (.seq (.ops [⟨(some 23), none, (.mov (.k (.int .i64 0)))⟩])
        (.blk 10 (.loop (.seq (.seq (.ops [⟨(some 211), none, (.mov (.t 23))⟩,
              ⟨(some 212), none, (.mov (.t 11))⟩,
              ⟨(some 213), none, (.len false (.t 212))⟩,
              ⟨(some 214), none, (.bin .lss (.t 211) (.t 213))⟩])
            (.cnd (.t 214)
              .skip
              (.exit 10)))
            (.seq (.blk 11 (.seq (.ops [⟨(some 217), none, (.mov (.t 9))⟩,
                ⟨(some 218), none, (.mov (.t 22))⟩,
                ⟨(some 219), none, (.ixA 1 (.t 217) (.t 218))⟩,
                ⟨(some 220), none, (.ld 1 false (.t 219))⟩,
                ⟨(some 221), none, (.mov (.t 23))⟩,
                ⟨(some 222), none, (.ixA 1 (.t 220) (.t 221))⟩,
                ⟨(some 223), none, (.ld 1 false (.t 222))⟩,
                ⟨(some 224), none, (.bin .eql (.t 223) (.k (.int .i64 1)))⟩,
                ⟨(some 225), none, (.mov (.t 11))⟩,
                ⟨(some 226), none, (.mov (.t 22))⟩,
                ⟨(some 227), none, (.ixA 1 (.t 225) (.t 226))⟩,
                ⟨(some 228), none, (.ld 1 false (.t 227))⟩,
                ⟨(some 229), none, (.mov (.t 23))⟩,
                ⟨(some 230), none, (.ixA 1 (.t 228) (.t 229))⟩,
                ⟨(some 231), none, (.ld 1 false (.t 230))⟩,
                ⟨(some 232), none, (.mov (.t 4))⟩,
                ⟨(some 233), none, (.bin .eql (.t 231) (.t 232))⟩,
                ⟨(some 234), none, (.eqn .bool true (.t 224) (.t 233))⟩,
                ⟨(some 235), none, (.mov (.t 234))⟩,
                ⟨(some 236), (some (235, false)), (.mov (.t 9))⟩,
                ⟨(some 237), (some (235, false)), (.mov (.t 22))⟩,
                ⟨(some 238), (some (235, false)), (.ixA 1 (.t 236) (.t 237))⟩,
                ⟨(some 239), (some (235, false)), (.ld 1 false (.t 238))⟩,
                ⟨(some 240), (some (235, false)), (.mov (.t 23))⟩,
                ⟨(some 241), (some (235, false)), (.ixA 1 (.t 239) (.t 240))⟩,
                ⟨(some 242), (some (235, false)), (.ld 1 false (.t 241))⟩,
                ⟨(some 243), (some (235, false)), (.bin .eql (.t 242) (.k (.int .i64 2)))⟩,
                ⟨(some 244), (some (235, false)), (.mov (.t 11))⟩,
                ⟨(some 245), (some (235, false)), (.mov (.t 22))⟩,
                ⟨(some 246), (some (235, false)), (.ixA 1 (.t 244) (.t 245))⟩,
                ⟨(some 247), (some (235, false)), (.ld 1 false (.t 246))⟩,
                ⟨(some 248), (some (235, false)), (.mov (.t 23))⟩,
                ⟨(some 249), (some (235, false)), (.ixA 1 (.t 247) (.t 248))⟩,
                ⟨(some 250), (some (235, false)), (.ld 1 false (.t 249))⟩,
                ⟨(some 251), (some (235, false)), (.bin .eql (.t 250) (.k (.int .i64 0)))⟩,
                ⟨(some 252), (some (235, false)), (.eqn .bool true (.t 243) (.t 251))⟩,
                ⟨(some 253), none, (.pick (.t 235) (.k (.bool true)) (.t 252))⟩,
                ⟨(some 254), none, (.mov (.t 253))⟩,
                ⟨(some 255), (some (254, false)), (.mov (.t 9))⟩,
                ⟨(some 256), (some (254, false)), (.mov (.t 22))⟩,
                ⟨(some 257), (some (254, false)), (.ixA 1 (.t 255) (.t 256))⟩,
                ⟨(some 258), (some (254, false)), (.ld 1 false (.t 257))⟩,
                ⟨(some 259), (some (254, false)), (.mov (.t 23))⟩,
                ⟨(some 260), (some (254, false)), (.ixA 1 (.t 258) (.t 259))⟩,
                ⟨(some 261), (some (254, false)), (.ld 1 false (.t 260))⟩,
                ⟨(some 262), (some (254, false)), (.bin .lss (.t 261) (.k (.int .i64 1)))⟩,
                ⟨(some 263), none, (.pick (.t 254) (.k (.bool true)) (.t 262))⟩,
                ⟨(some 264), none, (.mov (.t 263))⟩,
                ⟨(some 265), (some (264, false)), (.mov (.t 9))⟩,
                ⟨(some 266), (some (264, false)), (.mov (.t 22))⟩,
                ⟨(some 267), (some (264, false)), (.ixA 1 (.t 265) (.t 266))⟩,
                ⟨(some 268), (some (264, false)), (.ld 1 false (.t 267))⟩,
                ⟨(some 269), (some (264, false)), (.mov (.t 23))⟩,
                ⟨(some 270), (some (264, false)), (.ixA 1 (.t 268) (.t 269))⟩,
                ⟨(some 271), (some (264, false)), (.ld 1 false (.t 270))⟩,
                ⟨(some 272), (some (264, false)), (.bin .gtr (.t 271) (.k (.int .i64 3)))⟩,
                ⟨(some 273), none, (.pick (.t 264) (.k (.bool true)) (.t 272))⟩])
              (.cnd (.t 273)
                (.seq (.ops [⟨(some 2), none, (.mov (.k (.bool false)))⟩])
                .ret)
                .skip)))
            (.ops [⟨(some 215), none, (.mov (.t 23))⟩,
              ⟨(some 216), none, (.bin .add (.t 215) (.k (.int .i64 1)))⟩,
              ⟨(some 23), none, (.mov (.t 216))⟩])))))))
      (.ops [⟨(some 209), none, (.mov (.t 22))⟩,
        ⟨(some 210), none, (.bin .add (.t 209) (.k (.int .i64 1)))⟩,
        ⟨(some 22), none, (.mov (.t 210))⟩]))))))
  (.seq (.ops [⟨(some 274), none, (.callF 16 [])⟩,
    ⟨(some 2), none, (.mov (.t 274))⟩])
  .ret)))))))))))))⟩
def hint9 (P : Program) : Hint := { site := [], nils := [], frz := [], mve := [(86, 91)], wr := [] }

theorem seatAll_c (nums : List Int) (hn : nums.length < 2 ^ 62) : Fn0 Try.prog 9 [.slc 1 (iR nums) .non] (fun v => v = .bool true) := by
  refine RawC.walk (H := hint9 Try.prog) ir9 Try.func9 rfl rfl rfl ?_
  unfold ir9
  repeat' (first
    | with_reducible (first | refine Rd.p ?_ | refine zE ?_ | refine zE0 ?_)
    | with_reducible (first | refine zI fun y hy => ?_ | refine zL ?_ | refine zS ?_ | refine zA fun _ => ?_ | refine zV ?_ | refine zC ?_ | refine zG ?_ | refine zU ?_ | refine zG0 ?_ | refine zU0 ?_ | refine zF ?_)
    | ((with_reducible refine acall_id ?_); refine ACall.liftS (boxOf_s nums hn) [] (some 6) rfl rfl rfl trivial (fun _ => rfl) ?_; rintro ⟨gb, w⟩ _ rfl)
    | ((with_reducible refine acall_id ?_); refine ACall.box (partyOf_c _ _ 5 6 (by omega) (by omega)) rfl rfl rfl ?_; rintro _ _ ⟨gs, rs, rfl, hm⟩)
    | with_reducible (first | refine zX ?_ | refine zD fun _ => ?_ | refine zD0 ?_ | refine zN ?_ | refine zF0 ?_ | refine zX0 ?_ | refine z1 ?_ | refine z2 ?_ | refine z3 ?_ | refine z4 ?_ | refine z5 ?_ | refine z6 ?_ | refine z7 ?_ | refine z8 ?_ | refine y1 ?_ | refine y2 ?_ | refine y3 ?_ | refine y4 ?_ | refine y5 ?_ | refine y6 ?_ | refine y7 ?_ | refine y8 ?_ | refine Rt.p (fun _ => ?_) fun _ => ?_)
    | ((with_reducible apply w_ixM); (focus exact rfl); (focus exact rfl); case' hk => intro y hy) | ((with_reducible (first | apply w_val | apply q_ends)); (focus exact rfl)))
  have g1 := hm.g1
  have gn := hm.gn
  have rn := hm.rn
  have hk := pErr_made hm.g g1 (by omega) (by omega) hm.r
  have hp := pOK_of hk
  have hsz : ∀ x ∈ gs, x.name.size ≤ 1000 := fun x hx => by have := (madeG_ok hm.g).2 x hx; omega
  have hC := Count_c gs rs (by omega) (by omega) hsz
  have hB := Best_c gs rs (by omega) (by omega) hsz
  have hS := Sure_c gs rs (by omega) (by omega) hsz
  have hsp : sureP gs rs = if okL gs rs = [] then (none, 12) else (some (sureR gs.length (okL gs rs)), 0) := by rw [sureP, if_pos hk]
  have hO : Fn0 Try.prog 49 [.int .i64 gs.length, .slc 1 (iR []) .non] (fun v => v = .slc 1 (llR (perms gs.length)) .non) := rOrders_c gs.length (by omega) gs.length [] (by simp)
  have hpl := perms_len (n := gs.length) (by omega)
  have hol := okL_len gs rs (by omega)
  rw [if_pos hk, hk] at hC
  by_cases h0 : okL gs rs = []
  case pos =>
    have hb2 : bestP gs rs = (none, 0, 12) := by
      rcases bestP_cases hk with ⟨_, h⟩ | ⟨l, h, _⟩
      · exact h
      · rw [h0] at h; cases h
    have hno : ∀ l ∈ perms gs.length, alwB gs rs l = false := fun l hl => by
      cases hal : alwB gs rs l with
      | false => rfl
      | true =>
        have : l ∈ okL gs rs := List.mem_filter.2 ⟨hl, hal⟩
        rw [h0] at this; cases this
    rw [hb2] at hB
    rw [hsp, if_pos h0] at hS
    replace hC : Fn0 Try.prog 32 [pA gs rs] (fun v => v = .tup [.int .i64 0, .int .i64 0]) := by rw [h0] at hC; exact hC
    dsimp only [optV, optLL] at hB hS
    repeat' (first
      | with_reducible (first | refine Rd.p ?_ | refine zE ?_ | refine zE0 ?_)
      | (refine w_mksL rfl (by omega) ?_; intro g80)
      | with_reducible (first | refine zI fun y hy => ?_ | refine zL ?_ | refine zS ?_ | refine zA fun _ => ?_ | refine zV ?_ | refine zC ?_ | refine zG ?_ | refine zU ?_ | refine zG0 ?_ | refine zU0 ?_ | refine zF ?_)
      | ((with_reducible refine acall_id ?_); refine ACall.val hC rfl rfl ?_)
      | ((with_reducible refine acall_id ?_); refine ACall.val hB rfl rfl ?_)
      | ((with_reducible refine acall_id ?_); refine ACall.val hS rfl rfl ?_)
      | with_reducible (first | refine zX ?_ | refine zD fun _ => ?_ | refine zD0 ?_ | refine zN ?_ | refine zF0 ?_ | refine zX0 ?_ | refine z1 ?_ | refine z2 ?_ | refine z3 ?_ | refine z4 ?_ | refine z5 ?_ | refine z6 ?_ | refine z7 ?_ | refine z8 ?_ | refine y1 ?_ | refine y2 ?_ | refine y3 ?_ | refine y4 ?_ | refine y5 ?_ | refine y6 ?_ | refine y7 ?_ | refine y8 ?_ | refine Rt.p (fun _ => ?_) fun _ => ?_)
      | ((with_reducible apply w_ixM); (focus exact rfl); (focus exact rfl); case' hk => intro y hy) | ((with_reducible (first | apply w_val | apply q_ends)); (focus exact rfl)))
    all_goals first | (exfalso; omega) | skip
    rename_i g3
    refine w_loopK [3, 4, 11] [] (fun x : Nat × (Nat → Nat) => x.1 ≤ gs.length) (fun x => gs.length - x.1) (fun x => [(12, .int .i64 x.1)])
      (fun x => rowsT 80 3 (g80, .row (cellsR gs.length x.1 x.2 ++ List.replicate (gs.length - x.1) .nsl)) (g3, .row [.slc 5 (gR gs) .non, .slc 4 (rR rs) .non]) x.1 gs.length x.2 (fun _ _ => 0)) (0, fun _ => 0) (Nat.zero_le _) ⟨rfl, trivial⟩ ⟨rfl, rfl, trivial⟩ ?_
    rintro ⟨a, hs⟩ ha e σ
    dsimp only at ha ⊢
    by_cases hlt : a < gs.length
    case pos =>
      have hrep : List.replicate (gs.length - a) AV.nsl = AV.nsl :: List.replicate (gs.length - a - 1) AV.nsl := by
        rw [show gs.length - a = (gs.length - a - 1) + 1 by omega, List.replicate_succ]; simp
      have hcl := cellsR_len gs.length a hs
      rw [hrep]
      repeat' (first
        | with_reducible (first | refine Rd.p ?_ | refine zE ?_ | refine zE0 ?_)
        | (first | refine w_mksI rfl (by omega) ?_; intro g91; rw [rowI_zero] | refine w_stC rfl rfl (by rw [hcl]; omega) rfl ?_)
        | with_reducible (first | refine zI fun y hy => ?_ | refine zL ?_ | refine zS ?_ | refine zA fun _ => ?_ | refine zV ?_ | refine zC ?_ | refine zG ?_ | refine zU ?_ | refine zG0 ?_ | refine zU0 ?_ | refine zF ?_)
        | with_reducible (first | refine zX ?_ | refine zD fun _ => ?_ | refine zD0 ?_ | refine zN ?_ | refine zF0 ?_ | refine zX0 ?_ | refine z1 ?_ | refine z2 ?_ | refine z3 ?_ | refine z4 ?_ | refine z5 ?_ | refine z6 ?_ | refine z7 ?_ | refine z8 ?_ | refine y1 ?_ | refine y2 ?_ | refine y3 ?_ | refine y4 ?_ | refine y5 ?_ | refine y6 ?_ | refine y7 ?_ | refine y8 ?_ | refine Rt.p (fun _ => ?_) fun _ => ?_)
        | ((with_reducible apply w_ixM); (focus exact rfl); (focus exact rfl); case' hk => intro y hy) | ((with_reducible (first | apply w_val | apply q_ends)); (focus exact rfl)))
      refine w_mveG (5000 + a) (fun _ => [(3, .ref 3 g3 0), (4, .int .i64 0), (11, .msl 80 g80 gs.length 1), (12, .int .i64 a)]) (fun h => rowsT 80 3 (g80, .row (cellsR gs.length (a + 1) (upd hs a h) ++ List.replicate (gs.length - (a + 1)) .nsl)) (g3, .row [.slc 5 (gR gs) .non, .slc 4 (rR rs) .non]) (a + 1) gs.length (upd hs a h) (fun _ _ => 0)) rfl rfl ⟨by unfold YS; omega, by omega⟩ (fun h => ⟨rfl, rfl, rfl, rfl, trivial⟩) (fun h => ?_) ?_
      · refine slots_mve (by omega) (by omega) (by omega) (by omega) (by omega) rfl rfl rfl hlt (fun k hk => ?_) rfl
        rw [upd_eq, if_neg (by omega)]
        show newS _ 91 _ _ _ = _
        rw [newS, upd_eq, if_neg (by omega), rowsT_get (by omega) (by omega) hk]
      · intro h e2 σ2
        repeat' (first
          | with_reducible (first | refine Rd.p ?_ | refine zE ?_ | refine zE0 ?_)
          | with_reducible (first | refine zI fun y hy => ?_ | refine zL ?_ | refine zS ?_ | refine zA fun _ => ?_ | refine zV ?_ | refine zC ?_ | refine zG ?_ | refine zU ?_ | refine zG0 ?_ | refine zU0 ?_ | refine zF ?_)
          | with_reducible (first | refine zX ?_ | refine zD fun _ => ?_ | refine zD0 ?_ | refine zN ?_ | refine zF0 ?_ | refine zX0 ?_ | refine z1 ?_ | refine z2 ?_ | refine z3 ?_ | refine z4 ?_ | refine z5 ?_ | refine z6 ?_ | refine z7 ?_ | refine z8 ?_ | refine y1 ?_ | refine y2 ?_ | refine y3 ?_ | refine y4 ?_ | refine y5 ?_ | refine y6 ?_ | refine y7 ?_ | refine y8 ?_ | refine Rt.p (fun _ => ?_) fun _ => ?_)
          | ((with_reducible apply w_ixM); (focus exact rfl); (focus exact rfl); case' hk => intro y hy) | ((with_reducible (first | apply w_val | apply q_ends)); (focus exact rfl)))
        refine q_loop (a + 1, upd hs a h) ?_ ?_ (by repeat' (first | exact slots_nil | apply slots_cons | rfl | (rw [map_snoc]; rfl) | (rw [len_snoc]; rfl) | (rw [hS]; rfl) | (rw [hS, map_snoc]; rfl) | (refine int_eq ?_; (try dsimp only); omega) | (refine congrArg AV.bool ?_; simp_all; done))) (rowsT_slots (p := 80) (q := 3) (by omega) (by omega) (by omega)) (by repeat' (first | exact kept_nil | apply kept_cons | rfl)) (by repeat' (first | exact kept_nil | apply kept_cons | rfl))
        · dsimp only; omega
        · dsimp only; omega
    have haN : a = gs.length := by omega
    subst haN
    have hcl := cellsR_len gs.length gs.length hs
    rw [show cellsR gs.length gs.length hs ++ List.replicate (gs.length - gs.length) AV.nsl = cellsR gs.length gs.length hs by simp]
    repeat' (first
      | with_reducible (first | refine Rd.p ?_ | refine zE ?_ | refine zE0 ?_)
      | with_reducible (first | refine zI fun y hy => ?_ | refine zL ?_ | refine zS ?_ | refine zA fun _ => ?_ | refine zV ?_ | refine zC ?_ | refine zG ?_ | refine zU ?_ | refine zG0 ?_ | refine zU0 ?_ | refine zF ?_)
      | (refine ACall.wval (args' := [.int .i64 gs.length, .slc 1 (iR []) .non]) (.cons (Sub.refl _) (.cons Sub.nil .nil)) hO rfl rfl ?_)
      | with_reducible (first | refine zX ?_ | refine zD fun _ => ?_ | refine zD0 ?_ | refine zN ?_ | refine zF0 ?_ | refine zX0 ?_ | refine z1 ?_ | refine z2 ?_ | refine z3 ?_ | refine z4 ?_ | refine z5 ?_ | refine z6 ?_ | refine z7 ?_ | refine z8 ?_ | refine y1 ?_ | refine y2 ?_ | refine y3 ?_ | refine y4 ?_ | refine y5 ?_ | refine y6 ?_ | refine y7 ?_ | refine y8 ?_ | refine Rt.p (fun _ => ?_) fun _ => ?_)
      | ((with_reducible apply w_ixM); (focus exact rfl); (focus exact rfl); case' hk => intro y hy) | ((with_reducible (first | apply w_val | apply q_ends)); (focus exact rfl)))
    refine w_loopK [3, 4, 11, 13, 14, 15] [] (fun x : List (List Int) × List (List Int) => perms gs.length = x.1 ++ x.2) (fun x => x.2.length)
      (fun x => [(16, .int .i64 x.1.length)])
      (fun x => rowsT 80 3 (g80, .row (cellsR gs.length gs.length hs)) (g3, .row [.slc 5 (gR gs) .non, .slc 4 (rR rs) .non]) gs.length gs.length hs (fun _ _ => 0)) ([], perms gs.length) rfl ⟨rfl, trivial⟩ (rowsT_slots (p := 80) (q := 3) (by omega) (by omega) (by omega)) ?_
    rintro ⟨pre, post⟩ hl e1 σ1
    dsimp only at hl ⊢
    have hlen := congrArg List.length hl
    cases post with
    | cons l post =>
      simp only [List.length_append, List.length_cons] at hlen
      have hlm : l ∈ perms gs.length := by rw [hl]; simp
      have hlp : isPerm gs.length l := perm_of hlm
      have hll := hlp.len
      have hPr := Price_c gs rs l (by omega) (by omega) hsz (by omega)
      have hpp : priceP gs rs l = (some (plcF (brP gs l) 0 rs), prS gs rs l, 0) := by rw [priceP, if_pos hk, if_pos ⟨hll, (ordB_perm hll).2 hlp⟩]
      rw [hpp] at hPr
      dsimp only [optV] at hPr
      have hF := free_c gs rs (plcF (brP gs l) 0 rs) (fun i hi => by have := plcF_mem _ rs 0 hi; omega) (by
        rw [plcF_filter, List.length_map]
        have := List.length_filter_le (fun k => ((rs[k - 0]?).map (brP gs l)).getD false) (List.range' 0 rs.length)
        rw [List.length_range'] at this; omega)
      rw [plc_alw, hno l hlm] at hF
      repeat' (first
        | with_reducible (first | refine Rd.p ?_ | refine zE ?_ | refine zE0 ?_)
        | (refine w_ixP hl rfl rfl ?_)
        | with_reducible (first | refine zI fun y hy => ?_ | refine zL ?_ | refine zS ?_ | refine zA fun _ => ?_ | refine zV ?_ | refine zC ?_ | refine zG ?_ | refine zU ?_ | refine zG0 ?_ | refine zU0 ?_ | refine zF ?_)
        | ((with_reducible refine acall_id ?_); refine ACall.val hPr rfl rfl ?_)
        | ((with_reducible refine acall_id ?_); refine ACall.val hF rfl rfl ?_)
        | with_reducible (first | refine zX ?_ | refine zD fun _ => ?_ | refine zD0 ?_ | refine zN ?_ | refine zF0 ?_ | refine zX0 ?_ | refine z1 ?_ | refine z2 ?_ | refine z3 ?_ | refine z4 ?_ | refine z5 ?_ | refine z6 ?_ | refine z7 ?_ | refine z8 ?_ | refine y1 ?_ | refine y2 ?_ | refine y3 ?_ | refine y4 ?_ | refine y5 ?_ | refine y6 ?_ | refine y7 ?_ | refine y8 ?_ | refine Rt.p (fun _ => ?_) fun _ => ?_)
        | ((with_reducible apply w_ixM); (focus exact rfl); (focus exact rfl); case' hk => intro y hy) | ((with_reducible (first | apply w_val | apply q_ends)); (focus exact rfl)))
      refine q_loop (pre ++ [l], post) ?_ ?_ (by exact ⟨int_eq (by simp), trivial⟩) (rowsT_slots (p := 80) (q := 3) (by omega) (by omega) (by omega)) (by repeat' (first | exact kept_nil | apply kept_cons | rfl)) (by repeat' (first | exact kept_nil | apply kept_cons | rfl))
      · rw [hl]; simp
      · simp
    | nil =>
      simp only [List.append_nil, List.length_append, List.length_nil] at hlen hl
      subst hl
      repeat' (first
        | with_reducible (first | refine Rd.p ?_ | refine zE ?_ | refine zE0 ?_)
        | with_reducible (first | refine zI fun y hy => ?_ | refine zL ?_ | refine zS ?_ | refine zA fun _ => ?_ | refine zV ?_ | refine zC ?_ | refine zG ?_ | refine zU ?_ | refine zG0 ?_ | refine zU0 ?_ | refine zF ?_)
        | with_reducible (first | refine zX ?_ | refine zD fun _ => ?_ | refine zD0 ?_ | refine zN ?_ | refine zF0 ?_ | refine zX0 ?_ | refine z1 ?_ | refine z2 ?_ | refine z3 ?_ | refine z4 ?_ | refine z5 ?_ | refine z6 ?_ | refine z7 ?_ | refine z8 ?_ | refine y1 ?_ | refine y2 ?_ | refine y3 ?_ | refine y4 ?_ | refine y5 ?_ | refine y6 ?_ | refine y7 ?_ | refine y8 ?_ | refine Rt.p (fun _ => ?_) fun _ => ?_)
        | ((with_reducible apply w_ixM); (focus exact rfl); (focus exact rfl); case' hk => intro y hy) | ((with_reducible (first | apply w_val | apply q_ends)); (focus exact rfl)))
      all_goals first | (exfalso; rename_i h; exact absurd h (by decide)) | skip
      refine w_loopK [4, 11] [] (fun a : Nat => a ≤ gs.length) (fun a => gs.length - a) (fun a => [(22, .int .i64 a)])
        (fun x => rowsT 80 3 (g80, .row (cellsR gs.length gs.length hs)) (g3, .row [.slc 5 (gR gs) .non, .slc 4 (rR rs) .non]) gs.length gs.length hs (fun _ _ => 0)) 0 (Nat.zero_le _) ⟨rfl, trivial⟩ (rowsT_slots (p := 80) (q := 3) (by omega) (by omega) (by omega)) ?_
      rintro a ha2 e2 σ2
      dsimp only at ha2 ⊢
      repeat' (first
        | with_reducible (first | refine Rd.p ?_ | refine zE ?_ | refine zE0 ?_)
        | with_reducible (first | refine zI fun y hy => ?_ | refine zL ?_ | refine zS ?_ | refine zA fun _ => ?_ | refine zV ?_ | refine zC ?_ | refine zG ?_ | refine zU ?_ | refine zG0 ?_ | refine zU0 ?_ | refine zF ?_)
        | ((with_reducible refine acall_id ?_); refine ACall.val awake_c rfl rfl ?_)
        | with_reducible (first | refine zX ?_ | refine zD fun _ => ?_ | refine zD0 ?_ | refine zN ?_ | refine zF0 ?_ | refine zX0 ?_ | refine z1 ?_ | refine z2 ?_ | refine z3 ?_ | refine z4 ?_ | refine z5 ?_ | refine z6 ?_ | refine z7 ?_ | refine z8 ?_ | refine y1 ?_ | refine y2 ?_ | refine y3 ?_ | refine y4 ?_ | refine y5 ?_ | refine y6 ?_ | refine y7 ?_ | refine y8 ?_ | refine Rt.p (fun _ => ?_) fun _ => ?_)
        | ((with_reducible apply w_ixM); (focus exact rfl); (focus exact rfl); case' hk => intro y hy) | ((with_reducible (first | apply w_val | apply q_ends)); (focus exact rfl)))
      all_goals rfl
  obtain ⟨best, hb1, hb2, hb3⟩ := best_first hk h0
  rw [hb2] at hB
  rw [hsp, if_neg h0] at hS
  dsimp only [optV, optLL] at hB hS
  have hN0 : 0 < (okL gs rs).length := List.length_pos_iff.2 h0
  have hSl : (sureR gs.length (okL gs rs)).length = gs.length := by simp [sureR]
  have hSq := square_c (sureR gs.length (okL gs rs)) gs.length (by omega) (by omega) hSl (fun l hl => by
    obtain ⟨a, _, rfl⟩ := List.mem_map.1 hl; simp)
  have hbp := perm_of (List.mem_filter.1 hb1).1
  have hbl := hbp.len
  have hSv : ∀ a b : Nat, a < gs.length → b < gs.length → ∃ row : List Int, (sureR gs.length (okL gs rs))[((a : Nat) : Int).toNat]? = some row ∧ row[((b : Nat) : Int).toNat]? = some (vdI (bfS (okL gs rs) a b) (okL gs rs).length) := by
    intro a b ha hb
    refine ⟨(List.range gs.length).map fun b => vdI (bfS (okL gs rs) a b) (okL gs rs).length, ?_, ?_⟩
    · simp [sureR, List.getElem?_range ha]
    · simp [List.getElem?_range hb]
  generalize hX : sureR gs.length (okL gs rs) = X at hS hSl hSq hSv
  generalize hNe : (okL gs rs).length = N at hC hN0 hol hSv
  repeat' (first
    | with_reducible (first | refine Rd.p ?_ | refine zE ?_ | refine zE0 ?_)
    | (refine w_mksL rfl (by omega) ?_; intro g80)
    | with_reducible (first | refine zI fun y hy => ?_ | refine zL ?_ | refine zS ?_ | refine zA fun _ => ?_ | refine zV ?_ | refine zC ?_ | refine zG ?_ | refine zU ?_ | refine zG0 ?_ | refine zU0 ?_ | refine zF ?_)
    | ((with_reducible refine acall_id ?_); refine ACall.val hC rfl rfl ?_)
    | ((with_reducible refine acall_id ?_); refine ACall.val hB rfl rfl ?_)
    | ((with_reducible refine acall_id ?_); refine ACall.val hS rfl rfl ?_)
    | ((with_reducible refine acall_id ?_); refine ACall.val hSq rfl rfl ?_)
    | with_reducible (first | refine zX ?_ | refine zD fun _ => ?_ | refine zD0 ?_ | refine zN ?_ | refine zF0 ?_ | refine zX0 ?_ | refine z1 ?_ | refine z2 ?_ | refine z3 ?_ | refine z4 ?_ | refine z5 ?_ | refine z6 ?_ | refine z7 ?_ | refine z8 ?_ | refine y1 ?_ | refine y2 ?_ | refine y3 ?_ | refine y4 ?_ | refine y5 ?_ | refine y6 ?_ | refine y7 ?_ | refine y8 ?_ | refine Rt.p (fun _ => ?_) fun _ => ?_)
    | ((with_reducible apply w_ixM); (focus exact rfl); (focus exact rfl); case' hk => intro y hy) | ((with_reducible (first | apply w_val | apply q_ends)); (focus exact rfl)))
  rename_i g3
  refine w_loopK [3, 4, 6, 7, 9, 11] [] (fun x : Nat × (Nat → Nat) => x.1 ≤ gs.length) (fun x => gs.length - x.1) (fun x => [(12, .int .i64 x.1)])
    (fun x => rowsT 80 3 (g80, .row (cellsR gs.length x.1 x.2 ++ List.replicate (gs.length - x.1) .nsl)) (g3, .row [.slc 5 (gR gs) .non, .slc 4 (rR rs) .non]) x.1 gs.length x.2 (fun _ _ => 0)) (0, fun _ => 0) (Nat.zero_le _) ⟨rfl, trivial⟩ ⟨rfl, rfl, trivial⟩ ?_
  rintro ⟨a, hs⟩ ha e σ
  dsimp only at ha ⊢
  by_cases hlt : a < gs.length
  case pos =>
    have hrep : List.replicate (gs.length - a) AV.nsl = AV.nsl :: List.replicate (gs.length - a - 1) AV.nsl := by
      rw [show gs.length - a = (gs.length - a - 1) + 1 by omega, List.replicate_succ]; simp
    have hcl := cellsR_len gs.length a hs
    rw [hrep]
    repeat' (first
      | with_reducible (first | refine Rd.p ?_ | refine zE ?_ | refine zE0 ?_)
      | (first | refine w_mksI rfl (by omega) ?_; intro g91; rw [rowI_zero] | refine w_stC rfl rfl (by rw [hcl]; omega) rfl ?_)
      | with_reducible (first | refine zI fun y hy => ?_ | refine zL ?_ | refine zS ?_ | refine zA fun _ => ?_ | refine zV ?_ | refine zC ?_ | refine zG ?_ | refine zU ?_ | refine zG0 ?_ | refine zU0 ?_ | refine zF ?_)
      | with_reducible (first | refine zX ?_ | refine zD fun _ => ?_ | refine zD0 ?_ | refine zN ?_ | refine zF0 ?_ | refine zX0 ?_ | refine z1 ?_ | refine z2 ?_ | refine z3 ?_ | refine z4 ?_ | refine z5 ?_ | refine z6 ?_ | refine z7 ?_ | refine z8 ?_ | refine y1 ?_ | refine y2 ?_ | refine y3 ?_ | refine y4 ?_ | refine y5 ?_ | refine y6 ?_ | refine y7 ?_ | refine y8 ?_ | refine Rt.p (fun _ => ?_) fun _ => ?_)
      | ((with_reducible apply w_ixM); (focus exact rfl); (focus exact rfl); case' hk => intro y hy) | ((with_reducible (first | apply w_val | apply q_ends)); (focus exact rfl)))
    refine w_mveG (5000 + a) (fun _ => [(3, .ref 3 g3 0), (4, .int .i64 N), (6, .slc 1 (iR best) .non), (7, .int .i64 (prS gs rs best)), (9, .slc 1 (llR X) .non), (11, .msl 80 g80 gs.length 1), (12, .int .i64 a)]) (fun h => rowsT 80 3 (g80, .row (cellsR gs.length (a + 1) (upd hs a h) ++ List.replicate (gs.length - (a + 1)) .nsl)) (g3, .row [.slc 5 (gR gs) .non, .slc 4 (rR rs) .non]) (a + 1) gs.length (upd hs a h) (fun _ _ => 0)) rfl rfl ⟨by unfold YS; omega, by omega⟩ (fun h => ⟨rfl, rfl, rfl, rfl, rfl, rfl, rfl, trivial⟩) (fun h => ?_) ?_
    · refine slots_mve (by omega) (by omega) (by omega) (by omega) (by omega) rfl rfl rfl hlt (fun k hk => ?_) rfl
      rw [upd_eq, if_neg (by omega)]
      show newS _ 91 _ _ _ = _
      rw [newS, upd_eq, if_neg (by omega), rowsT_get (by omega) (by omega) hk]
    · intro h e2 σ2
      repeat' (first
        | with_reducible (first | refine Rd.p ?_ | refine zE ?_ | refine zE0 ?_)
        | with_reducible (first | refine zI fun y hy => ?_ | refine zL ?_ | refine zS ?_ | refine zA fun _ => ?_ | refine zV ?_ | refine zC ?_ | refine zG ?_ | refine zU ?_ | refine zG0 ?_ | refine zU0 ?_ | refine zF ?_)
        | with_reducible (first | refine zX ?_ | refine zD fun _ => ?_ | refine zD0 ?_ | refine zN ?_ | refine zF0 ?_ | refine zX0 ?_ | refine z1 ?_ | refine z2 ?_ | refine z3 ?_ | refine z4 ?_ | refine z5 ?_ | refine z6 ?_ | refine z7 ?_ | refine z8 ?_ | refine y1 ?_ | refine y2 ?_ | refine y3 ?_ | refine y4 ?_ | refine y5 ?_ | refine y6 ?_ | refine y7 ?_ | refine y8 ?_ | refine Rt.p (fun _ => ?_) fun _ => ?_)
        | ((with_reducible apply w_ixM); (focus exact rfl); (focus exact rfl); case' hk => intro y hy) | ((with_reducible (first | apply w_val | apply q_ends)); (focus exact rfl)))
      refine q_loop (a + 1, upd hs a h) ?_ ?_ (by repeat' (first | exact slots_nil | apply slots_cons | rfl | (rw [map_snoc]; rfl) | (rw [len_snoc]; rfl) | (rw [hS]; rfl) | (rw [hS, map_snoc]; rfl) | (refine int_eq ?_; (try dsimp only); omega) | (refine congrArg AV.bool ?_; simp_all; done))) (rowsT_slots (p := 80) (q := 3) (by omega) (by omega) (by omega)) (by repeat' (first | exact kept_nil | apply kept_cons | rfl)) (by repeat' (first | exact kept_nil | apply kept_cons | rfl))
      · dsimp only; omega
      · dsimp only; omega
  have haN : a = gs.length := by omega
  subst haN
  have hcl := cellsR_len gs.length gs.length hs
  rw [show cellsR gs.length gs.length hs ++ List.replicate (gs.length - gs.length) AV.nsl = cellsR gs.length gs.length hs by simp]
  repeat' (first
    | with_reducible (first | refine Rd.p ?_ | refine zE ?_ | refine zE0 ?_)
    | with_reducible (first | refine zI fun y hy => ?_ | refine zL ?_ | refine zS ?_ | refine zA fun _ => ?_ | refine zV ?_ | refine zC ?_ | refine zG ?_ | refine zU ?_ | refine zG0 ?_ | refine zU0 ?_ | refine zF ?_)
    | (refine ACall.wval (args' := [.int .i64 gs.length, .slc 1 (iR []) .non]) (.cons (Sub.refl _) (.cons Sub.nil .nil)) hO rfl rfl ?_)
    | with_reducible (first | refine zX ?_ | refine zD fun _ => ?_ | refine zD0 ?_ | refine zN ?_ | refine zF0 ?_ | refine zX0 ?_ | refine z1 ?_ | refine z2 ?_ | refine z3 ?_ | refine z4 ?_ | refine z5 ?_ | refine z6 ?_ | refine z7 ?_ | refine z8 ?_ | refine y1 ?_ | refine y2 ?_ | refine y3 ?_ | refine y4 ?_ | refine y5 ?_ | refine y6 ?_ | refine y7 ?_ | refine y8 ?_ | refine Rt.p (fun _ => ?_) fun _ => ?_)
    | ((with_reducible apply w_ixM); (focus exact rfl); (focus exact rfl); case' hk => intro y hy) | ((with_reducible (first | apply w_val | apply q_ends)); (focus exact rfl)))
  refine w_loopK [3, 4, 6, 7, 9, 11, 13] [] (fun x : List (List Int) × List (List Int) × (Nat → Nat → Int) × Bool => perms gs.length = x.1 ++ x.2.1 ∧ (∀ c z, x.2.2.1 c z = bfS (x.1.filter (alwB gs rs)) c z) ∧ x.2.2.2 = decide (best ∈ x.1)) (fun x => x.2.1.length)
    (fun x => [(16, .int .i64 x.1.length), (14, .int .i64 (x.1.filter (alwB gs rs)).length), (15, .bool x.2.2.2)])
    (fun x => rowsT 80 3 (g80, .row (cellsR gs.length gs.length hs)) (g3, .row [.slc 5 (gR gs) .non, .slc 4 (rR rs) .non]) gs.length gs.length hs x.2.2.1) ([], perms gs.length, (fun _ _ => 0), false) ⟨rfl, fun c z => by simp [bfS], by simp⟩ ⟨rfl, rfl, rfl, trivial⟩ (rowsT_slots (p := 80) (q := 3) (by omega) (by omega) (by omega)) ?_
  rintro ⟨pre, post, f, m⟩ ⟨hl, hf, hmt⟩ e1 σ1
  dsimp only at hl hf hmt ⊢
  have hlen := congrArg List.length hl
  cases post with
  | cons l post =>
    simp only [List.length_append, List.length_cons] at hlen
    have hfl := List.length_filter_le (alwB gs rs) pre
    have hlp : isPerm gs.length l := perm_of (show l ∈ perms gs.length by rw [hl]; simp)
    have hll := hlp.len
    have hPr := Price_c gs rs l (by omega) (by omega) hsz (by omega)
    have hpp : priceP gs rs l = (some (plcF (brP gs l) 0 rs), prS gs rs l, 0) := by rw [priceP, if_pos hk, if_pos ⟨hll, (ordB_perm hll).2 hlp⟩]
    rw [hpp] at hPr
    dsimp only [optV] at hPr
    have hF := free_c gs rs (plcF (brP gs l) 0 rs) (fun i hi => by have := plcF_mem _ rs 0 hi; omega) (by
      rw [plcF_filter, List.length_map]
      have := List.length_filter_le (fun k => ((rs[k - 0]?).map (brP gs l)).getD false) (List.range' 0 rs.length)
      rw [List.length_range'] at this; omega)
    rw [plc_alw] at hF
    have hL := beforeL_c l best (by omega) (by omega)
    have hE := eq_c l best (by omega)
    have hfs : (pre ++ [l]).filter (alwB gs rs) = pre.filter (alwB gs rs) ++ if alwB gs rs l = true then [l] else [] := by
      rw [List.filter_append, List.filter_cons]; rfl
    cases hal : alwB gs rs l with
    | false =>
      rw [hal] at hF
      rw [hal, if_neg (by simp), List.append_nil] at hfs
      have hne : l ≠ best := by
        rintro rfl
        have := (List.mem_filter.1 hb1).2
        rw [hal] at this; cases this
      repeat' (first
        | with_reducible (first | refine Rd.p ?_ | refine zE ?_ | refine zE0 ?_)
        | (refine w_ixP hl rfl rfl ?_)
        | with_reducible (first | refine zI fun y hy => ?_ | refine zL ?_ | refine zS ?_ | refine zA fun _ => ?_ | refine zV ?_ | refine zC ?_ | refine zG ?_ | refine zU ?_ | refine zG0 ?_ | refine zU0 ?_ | refine zF ?_)
        | ((with_reducible refine acall_id ?_); refine ACall.val hPr rfl rfl ?_)
        | ((with_reducible refine acall_id ?_); refine ACall.val hF rfl rfl ?_)
        | with_reducible (first | refine zX ?_ | refine zD fun _ => ?_ | refine zD0 ?_ | refine zN ?_ | refine zF0 ?_ | refine zX0 ?_ | refine z1 ?_ | refine z2 ?_ | refine z3 ?_ | refine z4 ?_ | refine z5 ?_ | refine z6 ?_ | refine z7 ?_ | refine z8 ?_ | refine y1 ?_ | refine y2 ?_ | refine y3 ?_ | refine y4 ?_ | refine y5 ?_ | refine y6 ?_ | refine y7 ?_ | refine y8 ?_ | refine Rt.p (fun _ => ?_) fun _ => ?_)
        | ((with_reducible apply w_ixM); (focus exact rfl); (focus exact rfl); case' hk => intro y hy) | ((with_reducible (first | apply w_val | apply q_ends)); (focus exact rfl)))
      refine q_loop (pre ++ [l], post, f, m) ?_ ?_ (by exact ⟨int_eq (by simp), int_eq (by rw [hfs]), rfl, trivial⟩) (rowsT_slots (p := 80) (q := 3) (by omega) (by omega) (by omega)) (by repeat' (first | exact kept_nil | apply kept_cons | rfl)) (by repeat' (first | exact kept_nil | apply kept_cons | rfl))
      · refine ⟨by rw [hl]; simp, fun c z => ?_, ?_⟩
        · dsimp only; rw [hfs]; exact hf c z
        · dsimp only; rw [hmt]; simp [Ne.symm hne]
      · simp
    | true =>
      rw [hal] at hF
      rw [hal, if_pos rfl] at hfs
      have hlo : l ∈ okL gs rs := List.mem_filter.2 ⟨by rw [hl]; simp, hal⟩
      obtain ⟨hge, hlx⟩ := hb3 l hlo
      have hmn : (m || (decide (l = best) && decide (prS gs rs l = prS gs rs best))) = decide (best ∈ pre ++ [l]) := by
        rw [hmt]
        by_cases e : l = best
        · subst e; simp
        · simp [e, Ne.symm e]
      have hbfb : ∀ c z, 0 ≤ f c z ∧ f c z ≤ 6000000 := fun c z => by
        have h1 := bfS_bd gs.length c z (pre.filter (alwB gs rs)) fun l hl => by rw [(perm_of (show l ∈ perms gs.length by rw [‹perms gs.length = _›]; simp [(List.mem_filter.1 hl).1])).len]; exact Nat.le_refl _
        rw [hf c z]
        have h2 : (gs.length : Int) * ((pre.filter (alwB gs rs)).length : Int) ≤ 5 * 823543 := Int.mul_le_mul (by omega) (by omega) (by omega) (by omega)
        omega
      have hlt2 : ¬ prS gs rs l < prS gs rs best := by omega
      have hlx2 : ¬ (prS gs rs l = prS gs rs best ∧ lexB l best = true) := fun h => by rw [hlx h.1] at h; cases h.2
      repeat' (first
        | with_reducible (first | refine Rd.p ?_ | refine zE ?_ | refine zE0 ?_)
        | (refine w_ixP hl rfl rfl ?_)
        | with_reducible (first | refine zI fun y hy => ?_ | refine zL ?_ | refine zS ?_ | refine zA fun _ => ?_ | refine zV ?_ | refine zC ?_ | refine zG ?_ | refine zU ?_ | refine zG0 ?_ | refine zU0 ?_ | refine zF ?_)
        | ((with_reducible refine acall_id ?_); refine ACall.val hPr rfl rfl ?_)
        | ((with_reducible refine acall_id ?_); refine ACall.val hF rfl rfl ?_)
        | ((with_reducible refine acall_id ?_); refine ACall.val hL rfl rfl ?_)
        | ((with_reducible refine acall_id ?_); refine ACall.val hE rfl rfl ?_)
        | with_reducible (first | refine zX ?_ | refine zD fun _ => ?_ | refine zD0 ?_ | refine zN ?_ | refine zF0 ?_ | refine zX0 ?_ | refine z1 ?_ | refine z2 ?_ | refine z3 ?_ | refine z4 ?_ | refine z5 ?_ | refine z6 ?_ | refine z7 ?_ | refine z8 ?_ | refine y1 ?_ | refine y2 ?_ | refine y3 ?_ | refine y4 ?_ | refine y5 ?_ | refine y6 ?_ | refine y7 ?_ | refine y8 ?_ | refine Rt.p (fun _ => ?_) fun _ => ?_)
        | ((with_reducible apply w_ixM); (focus exact rfl); (focus exact rfl); case' hk => intro y hy) | ((with_reducible (first | apply w_val | apply q_ends)); (focus exact rfl)))
      all_goals first | (exfalso; simp_all; done) | skip
      all_goals
        refine w_loopK [3, 4, 6, 7, 9, 11, 13, 14, 15, 16] [] (fun x : List Int × List Int × (Nat → Nat → Int) => l = x.1 ++ x.2.1 ∧ ∀ c z, x.2.2 c z + bf x.2.1 c z = f c z + bf l c z) (fun x => x.2.1.length) (fun x => [(20, .int .i64 x.1.length)])
          (fun x => rowsT 80 3 (g80, .row (cellsR gs.length gs.length hs)) (g3, .row [.slc 5 (gR gs) .non, .slc 4 (rR rs) .non]) gs.length gs.length hs x.2.2) ([], l, f) ⟨rfl, fun _ _ => rfl⟩ ⟨rfl, trivial⟩ (rowsT_slots (p := 80) (q := 3) (by omega) (by omega) (by omega)) ?_
        rintro ⟨p2, q2, f1⟩ ⟨hq, hf1⟩ e2 σ2
        dsimp only at hq hf1 ⊢
        have hlen2 := congrArg List.length hq
        cases q2 with
        | nil =>
          simp only [List.append_nil, List.length_append, List.length_nil] at hlen2 hq
          repeat' (first
            | with_reducible (first | refine Rd.p ?_ | refine zE ?_ | refine zE0 ?_)
            | (refine w_ixP hl rfl rfl ?_)
            | with_reducible (first | refine zI fun y hy => ?_ | refine zL ?_ | refine zS ?_ | refine zA fun _ => ?_ | refine zV ?_ | refine zC ?_ | refine zG ?_ | refine zU ?_ | refine zG0 ?_ | refine zU0 ?_ | refine zF ?_)
            | with_reducible (first | refine zX ?_ | refine zD fun _ => ?_ | refine zD0 ?_ | refine zN ?_ | refine zF0 ?_ | refine zX0 ?_ | refine z1 ?_ | refine z2 ?_ | refine z3 ?_ | refine z4 ?_ | refine z5 ?_ | refine z6 ?_ | refine z7 ?_ | refine z8 ?_ | refine y1 ?_ | refine y2 ?_ | refine y3 ?_ | refine y4 ?_ | refine y5 ?_ | refine y6 ?_ | refine y7 ?_ | refine y8 ?_ | refine Rt.p (fun _ => ?_) fun _ => ?_)
            | ((with_reducible apply w_ixM); (focus exact rfl); (focus exact rfl); case' hk => intro y hy) | ((with_reducible (first | apply w_val | apply q_ends)); (focus exact rfl)))
          refine q_loop (pre ++ [l], post, f1, decide (best ∈ pre ++ [l])) ?_ ?_ (by exact ⟨int_eq (by simp), int_eq (by rw [hfs]; simp), by (refine congrArg AV.bool (Eq.trans ?_ hmn); first | (rw [‹m = true›]; rfl) | (rw [‹m = false›, decide_eq_true ‹l = best›]; rfl) | (rw [‹m = false›, decide_eq_false ‹¬ l = best›]; rfl)), trivial⟩) (rowsT_slots (p := 80) (q := 3) (by omega) (by omega) (by omega)) (by repeat' (first | exact kept_nil | apply kept_cons | rfl)) (by repeat' (first | exact kept_nil | apply kept_cons | rfl))
          · refine ⟨by rw [hl]; simp, fun c z => ?_, rfl⟩
            have h1 := hf1 c z
            have h2 := hf c z
            simp only [bf] at h1
            rw [hfs, bfS_snoc, ← h2]
            dsimp only; omega
          · simp
        | cons a1 q2 =>
          simp only [List.length_append, List.length_cons] at hlen2
          have ha1 := hlp.bd a1 (by rw [hq]; simp)
          have hnd : (a1 :: q2).Nodup := (List.nodup_append.1 (hq ▸ hlp.nd)).2.1
          have hnp := (List.nodup_cons.1 hnd).2
          repeat' (first
            | with_reducible (first | refine Rd.p ?_ | refine zE ?_ | refine zE0 ?_)
            | (refine w_ixP hl rfl rfl ?_)
            | with_reducible (first | refine zI fun y hy => ?_ | refine zL ?_ | refine zS ?_ | refine zA fun _ => ?_ | refine zV ?_ | refine zC ?_ | refine zG ?_ | refine zU ?_ | refine zG0 ?_ | refine zU0 ?_ | refine zF ?_)
            | with_reducible (first | refine zX ?_ | refine zD fun _ => ?_ | refine zD0 ?_ | refine zN ?_ | refine zF0 ?_ | refine zX0 ?_ | refine z1 ?_ | refine z2 ?_ | refine z3 ?_ | refine z4 ?_ | refine z5 ?_ | refine z6 ?_ | refine z7 ?_ | refine z8 ?_ | refine y1 ?_ | refine y2 ?_ | refine y3 ?_ | refine y4 ?_ | refine y5 ?_ | refine y6 ?_ | refine y7 ?_ | refine y8 ?_ | refine Rt.p (fun _ => ?_) fun _ => ?_)
            | ((with_reducible apply w_ixM); (focus exact rfl); (focus exact rfl); case' hk => intro y hy) | ((with_reducible (first | apply w_val | apply q_ends)); (focus exact rfl)))
          refine w_loopK [3, 4, 6, 7, 9, 11, 13, 14, 15, 16, 20] [] (fun x : List Int × List Int × (Nat → Nat → Int) => l = x.1 ++ x.2.1 ∧ x.2.1.Nodup ∧ ∀ c z, x.2.2 c z + (if a1 = (c : Int) then inN x.2.1 z else 0) = f1 c z + (if a1 = (c : Int) then inN q2 z else 0)) (fun x => x.2.1.length) (fun x => [(21, .int .i64 x.1.length)])
            (fun x => rowsT 80 3 (g80, .row (cellsR gs.length gs.length hs)) (g3, .row [.slc 5 (gR gs) .non, .slc 4 (rR rs) .non]) gs.length gs.length hs x.2.2) (p2 ++ [a1], q2, f1) ⟨by rw [hq]; simp, hnp, fun _ _ => rfl⟩ ⟨int_eq (by simp), trivial⟩ (rowsT_slots (p := 80) (q := 3) (by omega) (by omega) (by omega)) ?_
          rintro ⟨p3, u, h⟩ ⟨hu, hun, hh⟩ e3 σ3
          dsimp only at hu hun hh ⊢
          have hlen3 := congrArg List.length hu
          cases u with
          | nil =>
            simp only [List.append_nil, List.length_append, List.length_nil] at hlen3 hu
            repeat' (first
              | with_reducible (first | refine Rd.p ?_ | refine zE ?_ | refine zE0 ?_)
              | (refine w_ixP hl rfl rfl ?_)
              | with_reducible (first | refine zI fun y hy => ?_ | refine zL ?_ | refine zS ?_ | refine zA fun _ => ?_ | refine zV ?_ | refine zC ?_ | refine zG ?_ | refine zU ?_ | refine zG0 ?_ | refine zU0 ?_ | refine zF ?_)
              | with_reducible (first | refine zX ?_ | refine zD fun _ => ?_ | refine zD0 ?_ | refine zN ?_ | refine zF0 ?_ | refine zX0 ?_ | refine z1 ?_ | refine z2 ?_ | refine z3 ?_ | refine z4 ?_ | refine z5 ?_ | refine z6 ?_ | refine z7 ?_ | refine z8 ?_ | refine y1 ?_ | refine y2 ?_ | refine y3 ?_ | refine y4 ?_ | refine y5 ?_ | refine y6 ?_ | refine y7 ?_ | refine y8 ?_ | refine Rt.p (fun _ => ?_) fun _ => ?_)
              | ((with_reducible apply w_ixM); (focus exact rfl); (focus exact rfl); case' hk => intro y hy) | ((with_reducible (first | apply w_val | apply q_ends)); (focus exact rfl)))
            refine q_loop (p2 ++ [a1], q2, h) ?_ ?_ (by exact ⟨int_eq (by simp), trivial⟩) (rowsT_slots (p := 80) (q := 3) (by omega) (by omega) (by omega)) (by repeat' (first | exact kept_nil | apply kept_cons | rfl)) (by repeat' (first | exact kept_nil | apply kept_cons | rfl))
            · refine ⟨by rw [hq]; simp, fun c z => ?_⟩
              have h2 := hf1 c z
              have h3 := hh c z
              simp only [bf] at h2
              have h4 : inN [] z = 0 := by simp [inN]
              rw [h4] at h3
              dsimp only
              split at h3 <;> split at h2 <;> first | omega | contradiction
            · simp
          | cons b1 u =>
            simp only [List.length_append, List.length_cons] at hlen3
            have hb1 := hlp.bd b1 (by rw [hu]; simp)
            obtain ⟨hbu, hun2⟩ := List.nodup_cons.1 hun
            have k1 := hf1 a1.toNat b1.toNat
            have k2 := hbfb a1.toNat b1.toNat
            have k3 := hh a1.toNat b1.toNat
            have k4 := bf_bd (a1 :: q2) a1.toNat b1.toNat
            have k5 := bf_bd l a1.toNat b1.toNat
            have k6 := inN_bd q2 b1.toNat
            have k7 := inN_bd (b1 :: u) b1.toNat
            have k8 : -1000 ≤ h a1.toNat b1.toNat ∧ h a1.toNat b1.toNat ≤ 6001000 := by
              simp only [List.length_cons] at k4
              split at k3 <;> omega
            repeat' (first
              | with_reducible (first | refine Rd.p ?_ | refine zE ?_ | refine zE0 ?_)
              | (first | refine w_ixP hl rfl rfl ?_ | refine w_ixP hq rfl rfl ?_ | refine w_ixP hu rfl rfl ?_ | refine w_ldCell rfl rfl (by omega) ?_ | refine w_ldR rfl (by omega) (by omega) (by omega) (by omega) ?_ | refine w_stR rfl rfl (by omega) (by omega) (by omega) (by omega) ?_)
              | with_reducible (first | refine zI fun y hy => ?_ | refine zL ?_ | refine zS ?_ | refine zA fun _ => ?_ | refine zV ?_ | refine zC ?_ | refine zG ?_ | refine zU ?_ | refine zG0 ?_ | refine zU0 ?_ | refine zF ?_)
              | with_reducible (first | refine zX ?_ | refine zD fun _ => ?_ | refine zD0 ?_ | refine zN ?_ | refine zF0 ?_ | refine zX0 ?_ | refine z1 ?_ | refine z2 ?_ | refine z3 ?_ | refine z4 ?_ | refine z5 ?_ | refine z6 ?_ | refine z7 ?_ | refine z8 ?_ | refine y1 ?_ | refine y2 ?_ | refine y3 ?_ | refine y4 ?_ | refine y5 ?_ | refine y6 ?_ | refine y7 ?_ | refine y8 ?_ | refine Rt.p (fun _ => ?_) fun _ => ?_)
              | ((with_reducible apply w_ixM); (focus exact rfl); (focus exact rfl); case' hk => intro y hy) | ((with_reducible (first | apply w_val | apply q_ends)); (focus exact rfl)))
            refine q_loop (p3 ++ [b1], u, setT h a1.toNat b1.toNat (h a1.toNat b1.toNat + 1)) ?_ ?_ (by exact ⟨int_eq (by simp), trivial⟩) (rowsT_slots (p := 80) (q := 3) (by omega) (by omega) (by omega)) (by repeat' (first | exact kept_nil | apply kept_cons | rfl)) (by repeat' (first | exact kept_nil | apply kept_cons | rfl))
            · refine ⟨by rw [hu]; simp, hun2, fun c z => ?_⟩
              have h2 := hh c z
              dsimp only
              rw [setT_self]
              have h4 : inN (b1 :: u) z = (if b1 = (z : Int) then 1 else 0) + inN u z := by
                unfold inN
                by_cases e3 : b1 = (z : Int)
                · rw [if_pos (by simp [e3]), if_pos e3, if_neg (e3 ▸ hbu)]; rfl
                · rw [if_neg e3]
                  by_cases e4 : (z : Int) ∈ u
                  · rw [if_pos (by simp [e4]), if_pos e4]; rfl
                  · rw [if_neg (by simp [e4]; exact fun h => e3 h.symm), if_neg e4]; rfl
              rw [h4] at h2
              by_cases e5 : a1 = (c : Int)
              · rw [if_pos e5] at h2 ⊢
                rw [if_pos e5] at h2
                by_cases e6 : b1 = (z : Int)
                · rw [if_pos e6] at h2
                  have ec : c = a1.toNat := by omega
                  have ez : z = b1.toNat := by omega
                  rw [if_pos ⟨ec, ez⟩, if_pos e5]
                  subst ec; subst ez
                  omega
                · rw [if_neg e6] at h2
                  rw [if_neg (fun h => e6 (by omega)), if_pos e5]
                  omega
              · rw [if_neg e5] at h2
                rw [if_neg e5] at h2
                rw [if_neg e5, if_neg (fun h => e5 (by omega)), if_neg e5]
                omega
            · simp
  | nil =>
    simp only [List.append_nil, List.length_append, List.length_nil] at hlen hl
    subst hl
    have hfN : ((perms gs.length).filter (alwB gs rs)).length = N := hNe
    have hmT : m = true := by rw [hmt]; exact decide_eq_true (List.mem_filter.1 hb1).1
    subst hmT
    have hfB : ∀ c z : Nat, f c z = bfS (okL gs rs) c z := hf
    have hff : (((perms gs.length).filter (alwB gs rs)).length : Int) = N := by rw [hfN]
    repeat' (first
      | with_reducible (first | refine Rd.p ?_ | refine zE ?_ | refine zE0 ?_)
      | with_reducible (first | refine zI fun y hy => ?_ | refine zL ?_ | refine zS ?_ | refine zA fun _ => ?_ | refine zV ?_ | refine zC ?_ | refine zG ?_ | refine zU ?_ | refine zG0 ?_ | refine zU0 ?_ | refine zF ?_)
      | with_reducible (first | refine zX ?_ | refine zD fun _ => ?_ | refine zD0 ?_ | refine zN ?_ | refine zF0 ?_ | refine zX0 ?_ | refine z1 ?_ | refine z2 ?_ | refine z3 ?_ | refine z4 ?_ | refine z5 ?_ | refine z6 ?_ | refine z7 ?_ | refine z8 ?_ | refine y1 ?_ | refine y2 ?_ | refine y3 ?_ | refine y4 ?_ | refine y5 ?_ | refine y6 ?_ | refine y7 ?_ | refine y8 ?_ | refine Rt.p (fun _ => ?_) fun _ => ?_)
      | ((with_reducible apply w_ixM); (focus exact rfl); (focus exact rfl); case' hk => intro y hy) | ((with_reducible (first | apply w_val | apply q_ends)); (focus exact rfl)))
    all_goals first | (exfalso; simp [negB] at *; omega) | skip
    refine w_loopK [4, 9, 11] [] (fun a : Nat => a ≤ gs.length) (fun a => gs.length - a) (fun a => [(22, .int .i64 a)])
      (fun x => rowsT 80 3 (g80, .row (cellsR gs.length gs.length hs)) (g3, .row [.slc 5 (gR gs) .non, .slc 4 (rR rs) .non]) gs.length gs.length hs f) 0 (Nat.zero_le _) ⟨rfl, trivial⟩ (rowsT_slots (p := 80) (q := 3) (by omega) (by omega) (by omega)) ?_
    rintro a ha2 e2 σ2
    dsimp only at ha2 ⊢
    by_cases hlt2 : a < gs.length
    case neg =>
      repeat' (first
        | with_reducible (first | refine Rd.p ?_ | refine zE ?_ | refine zE0 ?_)
        | with_reducible (first | refine zI fun y hy => ?_ | refine zL ?_ | refine zS ?_ | refine zA fun _ => ?_ | refine zV ?_ | refine zC ?_ | refine zG ?_ | refine zU ?_ | refine zG0 ?_ | refine zU0 ?_ | refine zF ?_)
        | ((with_reducible refine acall_id ?_); refine ACall.val awake_c rfl rfl ?_)
        | with_reducible (first | refine zX ?_ | refine zD fun _ => ?_ | refine zD0 ?_ | refine zN ?_ | refine zF0 ?_ | refine zX0 ?_ | refine z1 ?_ | refine z2 ?_ | refine z3 ?_ | refine z4 ?_ | refine z5 ?_ | refine z6 ?_ | refine z7 ?_ | refine z8 ?_ | refine y1 ?_ | refine y2 ?_ | refine y3 ?_ | refine y4 ?_ | refine y5 ?_ | refine y6 ?_ | refine y7 ?_ | refine y8 ?_ | refine Rt.p (fun _ => ?_) fun _ => ?_)
        | ((with_reducible apply w_ixM); (focus exact rfl); (focus exact rfl); case' hk => intro y hy) | ((with_reducible (first | apply w_val | apply q_ends)); (focus exact rfl)))
      rfl
    repeat' (first
      | with_reducible (first | refine Rd.p ?_ | refine zE ?_ | refine zE0 ?_)
      | with_reducible (first | refine zI fun y hy => ?_ | refine zL ?_ | refine zS ?_ | refine zA fun _ => ?_ | refine zV ?_ | refine zC ?_ | refine zG ?_ | refine zU ?_ | refine zG0 ?_ | refine zU0 ?_ | refine zF ?_)
      | with_reducible (first | refine zX ?_ | refine zD fun _ => ?_ | refine zD0 ?_ | refine zN ?_ | refine zF0 ?_ | refine zX0 ?_ | refine z1 ?_ | refine z2 ?_ | refine z3 ?_ | refine z4 ?_ | refine z5 ?_ | refine z6 ?_ | refine z7 ?_ | refine z8 ?_ | refine y1 ?_ | refine y2 ?_ | refine y3 ?_ | refine y4 ?_ | refine y5 ?_ | refine y6 ?_ | refine y7 ?_ | refine y8 ?_ | refine Rt.p (fun _ => ?_) fun _ => ?_)
      | ((with_reducible apply w_ixM); (focus exact rfl); (focus exact rfl); case' hk => intro y hy) | ((with_reducible (first | apply w_val | apply q_ends)); (focus exact rfl)))
    refine w_loopK [4, 9, 11, 22] [] (fun b : Nat => b ≤ gs.length) (fun b => gs.length - b) (fun b => [(23, .int .i64 b)])
      (fun x => rowsT 80 3 (g80, .row (cellsR gs.length gs.length hs)) (g3, .row [.slc 5 (gR gs) .non, .slc 4 (rR rs) .non]) gs.length gs.length hs f) 0 (Nat.zero_le _) ⟨rfl, trivial⟩ (rowsT_slots (p := 80) (q := 3) (by omega) (by omega) (by omega)) ?_
    rintro b hb2' e3 σ3
    dsimp only at hb2' ⊢
    by_cases hlt3 : b < gs.length
    case neg =>
      repeat' (first
        | with_reducible (first | refine Rd.p ?_ | refine zE ?_ | refine zE0 ?_)
        | with_reducible (first | refine zI fun y hy => ?_ | refine zL ?_ | refine zS ?_ | refine zA fun _ => ?_ | refine zV ?_ | refine zC ?_ | refine zG ?_ | refine zU ?_ | refine zG0 ?_ | refine zU0 ?_ | refine zF ?_)
        | with_reducible (first | refine zX ?_ | refine zD fun _ => ?_ | refine zD0 ?_ | refine zN ?_ | refine zF0 ?_ | refine zX0 ?_ | refine z1 ?_ | refine z2 ?_ | refine z3 ?_ | refine z4 ?_ | refine z5 ?_ | refine z6 ?_ | refine z7 ?_ | refine z8 ?_ | refine y1 ?_ | refine y2 ?_ | refine y3 ?_ | refine y4 ?_ | refine y5 ?_ | refine y6 ?_ | refine y7 ?_ | refine y8 ?_ | refine Rt.p (fun _ => ?_) fun _ => ?_)
        | ((with_reducible apply w_ixM); (focus exact rfl); (focus exact rfl); case' hk => intro y hy) | ((with_reducible (first | apply w_val | apply q_ends)); (focus exact rfl)))
      refine q_loop (a + 1) ?_ ?_ (by repeat' (first | exact slots_nil | apply slots_cons | rfl | (rw [map_snoc]; rfl) | (rw [len_snoc]; rfl) | (rw [hS]; rfl) | (rw [hS, map_snoc]; rfl) | (refine int_eq ?_; (try dsimp only); omega) | (refine congrArg AV.bool ?_; simp_all; done))) (rowsT_slots (p := 80) (q := 3) (by omega) (by omega) (by omega)) (by repeat' (first | exact kept_nil | apply kept_cons | rfl)) (by repeat' (first | exact kept_nil | apply kept_cons | rfl))
      · omega
      · omega
    obtain ⟨row, hr1, hr2⟩ := hSv a b hlt2 hlt3
    have hfv : f ((a : Nat) : Int).toNat ((b : Nat) : Int).toNat = bfS (okL gs rs) a b := hfB a b
    rw [← hfv] at hr2
    generalize hv : vdI (f ((a : Nat) : Int).toNat ((b : Nat) : Int).toNat) (N : Int) = v at hr2
    have hv1 : (decide (v = 1) == decide (f ((a : Nat) : Int).toNat ((b : Nat) : Int).toNat = (N : Int))) = true := by
      rw [← hv]; exact vdI_1 _ _
    have hv2 : (decide (v = 2) == decide (f ((a : Nat) : Int).toNat ((b : Nat) : Int).toNat = 0)) = true := by
      rw [← hv]; exact vdI_2 _ _ (by omega)
    have hv3 : 1 ≤ v ∧ v ≤ 3 := by
      rw [← hv, vdI]; split
      · omega
      · split <;> omega
    repeat' (first
      | with_reducible (first | refine Rd.p ?_ | refine zE ?_ | refine zE0 ?_)
      | (first | with_reducible refine zK hr1 ?_ | with_reducible refine zK hr2 ?_ | refine w_ldCell rfl rfl (by omega) ?_ | refine w_ldR rfl (by omega) (by omega) (by omega) (by omega) ?_)
      | with_reducible (first | refine zI fun y hy => ?_ | refine zL ?_ | refine zS ?_ | refine zA fun _ => ?_ | refine zV ?_ | refine zC ?_ | refine zG ?_ | refine zU ?_ | refine zG0 ?_ | refine zU0 ?_ | refine zF ?_)
      | with_reducible (first | refine zX ?_ | refine zD fun _ => ?_ | refine zD0 ?_ | refine zN ?_ | refine zF0 ?_ | refine zX0 ?_ | refine z1 ?_ | refine z2 ?_ | refine z3 ?_ | refine z4 ?_ | refine z5 ?_ | refine z6 ?_ | refine z7 ?_ | refine z8 ?_ | refine y1 ?_ | refine y2 ?_ | refine y3 ?_ | refine y4 ?_ | refine y5 ?_ | refine y6 ?_ | refine y7 ?_ | refine y8 ?_ | refine Rt.p (fun _ => ?_) fun _ => ?_)
      | ((with_reducible apply w_ixM); (focus exact rfl); (focus exact rfl); case' hk => intro y hy) | ((with_reducible (first | apply w_val | apply q_ends)); (focus exact rfl)))
    · exfalso; rename_i h; rw [hv1] at h; cases h
    · exfalso; rename_i h; rw [hv2] at h; cases h
    refine q_loop (b + 1) ?_ ?_ (by repeat' (first | exact slots_nil | apply slots_cons | rfl | (rw [map_snoc]; rfl) | (rw [len_snoc]; rfl) | (rw [hS]; rfl) | (rw [hS, map_snoc]; rfl) | (refine int_eq ?_; (try dsimp only); omega) | (refine congrArg AV.bool ?_; simp_all; done))) (rowsT_slots (p := 80) (q := 3) (by omega) (by omega) (by omega)) (by repeat' (first | exact kept_nil | apply kept_cons | rfl)) (by repeat' (first | exact kept_nil | apply kept_cons | rfl))
    · omega
    · omega
end Go.Abs
