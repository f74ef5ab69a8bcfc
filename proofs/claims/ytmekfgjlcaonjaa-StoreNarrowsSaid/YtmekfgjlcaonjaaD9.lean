/- A part of the proofs of the laws of this seat: contracts of the functions that they reach, each proved of the program's form in Lean. No condition beyond those that each contract names. -/
import Derived.Test.YtmekfgjlcaonjaaD8
import Derived.Test.YtmekfgjlcaonjaaD7
import Derived.Test.YtmekfgjlcaonjaaD5
import Derived.Test.YtmekfgjlcaonjaaD4
import Derived.Test.YtmekfgjlcaonjaaD2
import Derived.Test.YtmekfgjlcaonjaaD1
import Derived.Test.YtmekfgjlcaonjaaC13
import Derived.Test.YtmekfgjlcaonjaaC7
import Derived.Test.YtmekfgjlcaonjaaC6
import Derived.Test.YtmekfgjlcaonjaaC4
import Derived.Test.YtmekfgjlcaonjaaC3
import Derived.Test.YtmekfgjlcaonjaaC2
import Derived.Test.YtmekfgjlcaonjaaC1
import Derived.Test.YtmekfgjlcaonjaaB0
import Derived.Test.YtmekfgjlcaonjaaB1
import Derived.Test.YtmekfgjlcaonjaaB4
import Derived.Test.YtmekfgjlcaonjaaB9
import Derived.Test.YtmekfgjlcaonjaaB11
import Derived.Test.YtmekfgjlcaonjaaB14a
import Derived.Test.YtmekfgjlcaonjaaB20
import Derived.Test.YtmekfgjlcaonjaaB25
import Derived.Test.YtmekfgjlcaonjaaB29
import Derived.Test.YtmekfgjlcaonjaaB32
import Derived.Test.YtmekfgjlcaonjaaB36
import Derived.Test.YtmekfgjlcaonjaaB47
set_option linter.unusedVariables false
set_option linter.unusedSimpArgs false
set_option maxRecDepth 20000
set_option maxHeartbeats 1600000
/-! ### The law of narrower days, walked -/
namespace Go.Abs
open Go.Proofs
/-- A link with narrower days. -/
structure NarP (a b : Lnk) : Prop where
  f : b.f = a.f
  t : b.t = a.t
  lo : a.lo ≤ b.lo
  mid : b.lo ≤ b.hi
  hi : b.hi ≤ a.hi
theorem nar_of {c : Chn} {l : List (Lnk × Lnk)} {lo hi : Int} (h : c.ls = l.map (·.1)) (hl : ∀ x ∈ l, NarP x.1 x.2) (h1 : c.lo ≤ lo) (h2 : hi ≤ c.hi) : Nar c ⟨c.maker, lo, hi, l.map (·.2)⟩ := by
  refine ⟨rfl, h1, h2, by rw [h]; simp, fun i => ?_⟩
  unfold lkAt
  rw [h]
  simp only [List.getElem?_map]
  cases hi : l[i.toNat]? with
  | none => simp
  | some x =>
    have hx := hl x (List.mem_of_getElem? hi)
    simp only [Option.map_some, Option.getD_some]
    exact ⟨hx.f, hx.t, hx.lo, hx.hi⟩
theorem nar_form {c : Chn} {l : List (Lnk × Lnk)} {lo hi : Int} (hE : chainE c = 0) (h : c.ls = l.map (·.1)) (hl : ∀ x ∈ l, NarP x.1 x.2) (h1 : c.lo ≤ lo) (h2 : hi ≤ c.hi) (h3 : lo ≤ hi) : chainE ⟨c.maker, lo, hi, l.map (·.2)⟩ = 0 ∨ chainE ⟨c.maker, lo, hi, l.map (·.2)⟩ = 12 := by
  have hf := (chainE_0 hE).1
  have ok := formE_0 hf
  have hlk : lnksE c.ls = 0 := by
    unfold formE at hf
    split at hf
    · split at hf
      · split at hf
        · cases hf
        · exact hf
      · rename_i h0; exact absurd hf h0
    · cases hf
  have hf' : formE ⟨c.maker, lo, hi, l.map (·.2)⟩ = 0 := by
    have := ok.own
    have := ok.m
    have hn := ok.n
    rw [h, List.length_map] at hn
    rw [formE, if_pos (inB_t.2 (by dsimp only; omega)), if_pos (by rw [dayE, if_pos (by rw [Bool.and_eq_true, inB_t, inB_t]; dsimp only; omega), if_neg (by dsimp only; omega)]), if_neg (by simp; omega)]
    refine lnksE_of fun x hx => ?_
    obtain ⟨p, hp, rfl⟩ := List.mem_map.1 hx
    have hn := hl p hp
    have h0 := lnkE_0 (lnksE_0 hlk p.1 (by rw [h]; exact List.mem_map.2 ⟨p, hp, rfl⟩))
    have := hn.f; have := hn.t; have := hn.lo; have := hn.mid; have := hn.hi
    exact lnkE_of (by omega) (by omega) (by omega) (by omega)
  rw [chainE, if_pos hf']
  split
  · exact .inr rfl
  · exact .inl rfl
theorem daysV_s (c : Chn) (hl : c.ls.length < 1000) (he : chainE c = 0) : Fn0 Try.prog 24 [cA c] (fun v => v = .tup [.agg [.int .i64 (madeLo c), .int .i64 (madeHi c)], .slc 2 (sR ((List.range c.ls.length).map fun k => (linkLo c k, linkHi c k))) .non, .int .i64 0]) := by
  refine RawC.mono (days_c c hl) fun v _ h => ?_
  dsimp only at h ⊢
  rw [if_pos he, (daysF_eq c).1, (daysF_eq c).2] at h
  exact h
theorem ordersV_s (c : Chn) (hl : c.ls.length < 1000) (he : chainE c = 0) : Fn0 Try.prog 22 [cA c] (fun v => v = .tup [.slc 1 (llR (ordsF c)) .non, .int .i64 0]) := by
  refine RawC.mono (orders_s c hl) fun v _ h => ?_
  dsimp only at h ⊢
  rw [he] at h
  cases ho : ordsF c with
  | nil => exact absurd ho (ordsF_ne he)
  | cons o os => rw [ho] at h; exact h
theorem chain_links {c : Chn} (hE : chainE c = 0) : ∀ y ∈ c.ls, lnkE y = 0 := by
  have hf := (chainE_0 hE).1
  unfold formE at hf
  split at hf
  · split at hf
    · split at hf
      · cases hf
      · exact lnksE_0 hf
    · rename_i h0; exact absurd hf h0
  · cases hf
theorem range_get {α : Type} {f : Nat → α} {n k : Nat} (h : k < n) : ((List.range n).map f)[k]? = some (f k) := by simp [h]
/-- aloeswood/aloeswoodlaw09.StoreNarrows -/
def ir5 : IFn :=
  ⟨197, [(2, none)], (.seq (.ops [⟨(some 2), none, (.mov (.k (.bool false)))⟩])
  (.seq (.ops [⟨(some 28), none, (.mov (.t 0))⟩,
    ⟨(some 29), none, (.callF 17 [(.t 28)])⟩,
    ⟨(some 3), none, (.mov (.t 29))⟩])
  (.seq (.ops [⟨(some 30), none, (.mov (.t 3))⟩,
    ⟨(some 31), none, (.callF 18 [(.t 30), (.k (.int .i64 6)), (.k (.int .i64 5)), (.k (.int .i64 4))])⟩,
    ⟨(some 4), none, (.new [(.int .i64 0), (.int .i64 0), (.int .i64 0), .nsl])⟩,
    ⟨none, none, (.st 4 (.t 4) (.t 31))⟩])
  (.seq (.ops [⟨(some 32), none, (.ld 4 true (.t 4))⟩,
    ⟨(some 33), none, (.callF 21 [(.t 32)])⟩,
    ⟨(some 34), none, (.mov (.t 3))⟩,
    ⟨(some 35), none, (.callF 20 [(.t 34), (.k (.int .i64 50))])⟩,
    ⟨(some 5), none, (.new [(.int .i64 0), (.int .i64 0), (.int .i64 0), .nsl])⟩,
    ⟨none, none, (.st 4 (.t 5) (.t 33))⟩,
    ⟨(some 6), none, (.mov (.t 35))⟩])
  (.seq (.ops [⟨(some 36), none, (.mov (.t 3))⟩,
    ⟨(some 37), none, (.flA 1 (.t 4))⟩,
    ⟨(some 38), none, (.ld 2 true (.t 37))⟩,
    ⟨(some 39), none, (.callF 38 [(.t 36), (.t 38)])⟩,
    ⟨(some 40), none, (.flA 1 (.t 5))⟩,
    ⟨none, none, (.st 2 (.t 40) (.t 39))⟩])
  (.seq (.seq (.ops [⟨(some 7), none, (.mov (.k (.int .i64 0)))⟩])
  (.blk 0 (.loop (.seq (.seq (.ops [⟨(some 41), none, (.mov (.t 7))⟩,
        ⟨(some 42), none, (.flA 3 (.t 5))⟩,
        ⟨(some 43), none, (.ld 1 false (.t 42))⟩,
        ⟨(some 44), none, (.len false (.t 43))⟩,
        ⟨(some 45), none, (.bin .lss (.t 41) (.t 44))⟩])
      (.cnd (.t 45)
        .skip
        (.exit 0)))
      (.seq (.blk 1 (.seq (.ops [⟨(some 48), none, (.mov (.t 3))⟩,
          ⟨(some 49), none, (.callF 19 [(.t 48), (.k (.int .i64 2))])⟩])
        (.cnd (.t 49)
          (.ops [⟨(some 50), none, (.flA 3 (.t 5))⟩,
            ⟨(some 51), none, (.ld 1 false (.t 50))⟩,
            ⟨(some 52), none, (.mov (.t 7))⟩,
            ⟨(some 53), none, (.mov (.t 3))⟩,
            ⟨(some 54), none, (.flA 3 (.t 5))⟩,
            ⟨(some 55), none, (.ld 1 false (.t 54))⟩,
            ⟨(some 56), none, (.mov (.t 7))⟩,
            ⟨(some 57), none, (.ixA 4 (.t 55) (.t 56))⟩,
            ⟨(some 58), none, (.flA 2 (.t 57))⟩,
            ⟨(some 59), none, (.ld 2 true (.t 58))⟩,
            ⟨(some 60), none, (.callF 38 [(.t 53), (.t 59)])⟩,
            ⟨none, none, (.chk 1 false (.t 50) 51)⟩,
            ⟨(some 61), none, (.ixA 4 (.t 51) (.t 52))⟩,
            ⟨(some 62), none, (.flA 2 (.t 61))⟩,
            ⟨none, none, (.st 2 (.t 62) (.t 60))⟩])
          .skip)))
      (.ops [⟨(some 46), none, (.mov (.t 7))⟩,
        ⟨(some 47), none, (.bin .add (.t 46) (.k (.int .i64 1)))⟩,
        ⟨(some 7), none, (.mov (.t 47))⟩]))))))
  (.seq (.seq (.seq (.frz (.t 43))
  (.ops [⟨(some 63), none, (.ld 4 true (.t 5))⟩,
    ⟨(some 64), none, (.callF 26 [(.t 63)])⟩,
    ⟨(some 8), none, (.mov (.t 64))⟩]))
  (.seq (.ops [⟨(some 65), none, (.mov (.t 8))⟩,
    ⟨(some 66), none, (.bin .neq (.t 65) (.k (.int .i64 0)))⟩])
  (.cnd (.t 66)
    (.seq (.ops [⟨(some 67), none, (.mov (.t 8))⟩,
      ⟨(some 68), none, (.bin .eql (.t 67) (.k (.int .i64 12)))⟩,
      ⟨(some 69), none, (.mov (.t 68))⟩,
      ⟨(some 70), (some (69, true)), (.callF 16 [])⟩,
      ⟨(some 71), none, (.pick (.t 69) (.t 70) (.k (.bool false)))⟩,
      ⟨(some 2), none, (.mov (.t 71))⟩])
    .ret)
    .skip)))
  (.seq (.ops [⟨(some 73), none, (.ld 4 true (.t 4))⟩,
    ⟨(some 74), none, (.callF 24 [(.t 73)])⟩,
    ⟨(some 72), none, (.mov (.t 74))⟩,
    ⟨(some 75), none, (.ext 0 (.t 72))⟩,
    ⟨(some 76), none, (.ext 1 (.t 72))⟩,
    ⟨(some 77), none, (.ext 2 (.t 72))⟩,
    ⟨(some 9), none, (.new [(.int .i64 0), (.int .i64 0)])⟩,
    ⟨none, none, (.st 2 (.t 9) (.t 75))⟩,
    ⟨(some 10), none, (.mov (.t 76))⟩,
    ⟨(some 11), none, (.mov (.t 77))⟩])
  (.seq (.ops [⟨(some 79), none, (.ld 4 true (.t 5))⟩,
    ⟨(some 80), none, (.callF 24 [(.t 79)])⟩,
    ⟨(some 78), none, (.mov (.t 80))⟩,
    ⟨(some 81), none, (.ext 0 (.t 78))⟩,
    ⟨(some 82), none, (.ext 1 (.t 78))⟩,
    ⟨(some 83), none, (.ext 2 (.t 78))⟩,
    ⟨(some 12), none, (.new [(.int .i64 0), (.int .i64 0)])⟩,
    ⟨none, none, (.st 2 (.t 12) (.t 81))⟩,
    ⟨(some 13), none, (.mov (.t 82))⟩,
    ⟨(some 14), none, (.mov (.t 83))⟩])
  (.seq (.ops [⟨(some 85), none, (.ld 4 true (.t 4))⟩,
    ⟨(some 86), none, (.callF 22 [(.t 85)])⟩,
    ⟨(some 84), none, (.mov (.t 86))⟩,
    ⟨(some 87), none, (.ext 0 (.t 84))⟩,
    ⟨(some 88), none, (.ext 1 (.t 84))⟩,
    ⟨(some 15), none, (.mov (.t 87))⟩,
    ⟨(some 16), none, (.mov (.t 88))⟩])
  (.seq (.ops [⟨(some 90), none, (.ld 4 true (.t 5))⟩,
    ⟨(some 91), none, (.callF 22 [(.t 90)])⟩,
    ⟨(some 89), none, (.mov (.t 91))⟩,
    ⟨(some 92), none, (.ext 0 (.t 89))⟩,
    ⟨(some 93), none, (.ext 1 (.t 89))⟩,
    ⟨(some 17), none, (.mov (.t 92))⟩,
    ⟨(some 18), none, (.mov (.t 93))⟩])
  (.seq (.ops [⟨(some 95), none, (.ld 4 true (.t 4))⟩,
    ⟨(some 96), none, (.mov (.t 6))⟩,
    ⟨(some 97), none, (.callF 36 [(.t 95), (.t 96)])⟩,
    ⟨(some 94), none, (.mov (.t 97))⟩,
    ⟨(some 98), none, (.ext 0 (.t 94))⟩,
    ⟨(some 99), none, (.ext 1 (.t 94))⟩,
    ⟨(some 19), none, (.mov (.t 98))⟩,
    ⟨(some 20), none, (.mov (.t 99))⟩])
  (.seq (.ops [⟨(some 101), none, (.ld 4 true (.t 5))⟩,
    ⟨(some 102), none, (.mov (.t 6))⟩,
    ⟨(some 103), none, (.callF 36 [(.t 101), (.t 102)])⟩,
    ⟨(some 100), none, (.mov (.t 103))⟩,
    ⟨(some 104), none, (.ext 0 (.t 100))⟩,
    ⟨(some 105), none, (.ext 1 (.t 100))⟩,
    ⟨(some 21), none, (.mov (.t 104))⟩,
    ⟨(some 22), none, (.mov (.t 105))⟩])
  (.seq (.seq (.ops [⟨(some 106), none, (.mov (.t 11))⟩,
    ⟨(some 107), none, (.bin .neq (.t 106) (.k (.int .i64 0)))⟩,
    ⟨(some 108), none, (.mov (.t 107))⟩,
    ⟨(some 109), (some (108, false)), (.mov (.t 14))⟩,
    ⟨(some 110), (some (108, false)), (.bin .neq (.t 109) (.k (.int .i64 0)))⟩,
    ⟨(some 111), none, (.pick (.t 108) (.k (.bool true)) (.t 110))⟩,
    ⟨(some 112), none, (.mov (.t 111))⟩,
    ⟨(some 113), (some (112, false)), (.mov (.t 16))⟩,
    ⟨(some 114), (some (112, false)), (.bin .neq (.t 113) (.k (.int .i64 0)))⟩,
    ⟨(some 115), none, (.pick (.t 112) (.k (.bool true)) (.t 114))⟩,
    ⟨(some 116), none, (.mov (.t 115))⟩,
    ⟨(some 117), (some (116, false)), (.mov (.t 18))⟩,
    ⟨(some 118), (some (116, false)), (.bin .neq (.t 117) (.k (.int .i64 0)))⟩,
    ⟨(some 119), none, (.pick (.t 116) (.k (.bool true)) (.t 118))⟩,
    ⟨(some 120), none, (.mov (.t 119))⟩,
    ⟨(some 121), (some (120, false)), (.mov (.t 20))⟩,
    ⟨(some 122), (some (120, false)), (.bin .neq (.t 121) (.k (.int .i64 0)))⟩,
    ⟨(some 123), none, (.pick (.t 120) (.k (.bool true)) (.t 122))⟩,
    ⟨(some 124), none, (.mov (.t 123))⟩,
    ⟨(some 125), (some (124, false)), (.mov (.t 22))⟩,
    ⟨(some 126), (some (124, false)), (.bin .neq (.t 125) (.k (.int .i64 0)))⟩,
    ⟨(some 127), none, (.pick (.t 124) (.k (.bool true)) (.t 126))⟩,
    ⟨(some 128), none, (.mov (.t 127))⟩,
    ⟨(some 129), (some (128, false)), (.mov (.t 10))⟩,
    ⟨(some 130), (some (128, false)), (.len false (.t 129))⟩,
    ⟨(some 131), (some (128, false)), (.mov (.t 13))⟩,
    ⟨(some 132), (some (128, false)), (.len false (.t 131))⟩,
    ⟨(some 133), (some (128, false)), (.bin .neq (.t 130) (.t 132))⟩,
    ⟨(some 134), none, (.pick (.t 128) (.k (.bool true)) (.t 133))⟩,
    ⟨(some 135), none, (.mov (.t 134))⟩,
    ⟨(some 136), (some (135, false)), (.ld 2 true (.t 12))⟩,
    ⟨(some 137), (some (135, false)), (.ld 2 true (.t 9))⟩,
    ⟨(some 138), (some (135, false)), (.callF 39 [(.t 136), (.t 137)])⟩,
    ⟨(some 139), (some (135, false)), (.not (.t 138))⟩,
    ⟨(some 140), none, (.pick (.t 135) (.k (.bool true)) (.t 139))⟩])
  (.cnd (.t 140)
    (.seq (.ops [⟨(some 2), none, (.mov (.k (.bool false)))⟩])
    .ret)
    .skip))
  (.seq (.seq (.ops [⟨(some 23), none, (.mov (.k (.int .i64 0)))⟩])
  (.blk 2 (.loop (.seq (.seq (.ops [⟨(some 141), none, (.mov (.t 23))⟩,
        ⟨(some 142), none, (.mov (.t 10))⟩,
        ⟨(some 143), none, (.len false (.t 142))⟩,
        ⟨(some 144), none, (.bin .lss (.t 141) (.t 143))⟩])
      (.cnd (.t 144)
        .skip
        (.exit 2)))
      (.seq (.blk 3 (.seq (.ops [⟨(some 147), none, (.mov (.t 13))⟩,
          ⟨(some 148), none, (.mov (.t 23))⟩,
          ⟨(some 149), none, (.ixA 2 (.t 147) (.t 148))⟩,
          ⟨(some 150), none, (.ld 2 true (.t 149))⟩,
          ⟨(some 151), none, (.mov (.t 10))⟩,
          ⟨(some 152), none, (.mov (.t 23))⟩,
          ⟨(some 153), none, (.ixA 2 (.t 151) (.t 152))⟩,
          ⟨(some 154), none, (.ld 2 true (.t 153))⟩,
          ⟨(some 155), none, (.callF 39 [(.t 150), (.t 154)])⟩,
          ⟨(some 156), none, (.not (.t 155))⟩])
        (.cnd (.t 156)
          (.seq (.ops [⟨(some 2), none, (.mov (.k (.bool false)))⟩])
          .ret)
          .skip)))
      (.ops [⟨(some 145), none, (.mov (.t 23))⟩,
        ⟨(some 146), none, (.bin .add (.t 145) (.k (.int .i64 1)))⟩,
        ⟨(some 23), none, (.mov (.t 146))⟩]))))))
  (.seq (.seq (.ops [⟨(some 24), none, (.mov (.k (.int .i64 0)))⟩])
  (.blk 4 (.loop (.seq (.seq (.ops [⟨(some 157), none, (.mov (.t 24))⟩,
        ⟨(some 158), none, (.mov (.t 21))⟩,
        ⟨(some 159), none, (.len false (.t 158))⟩,
        ⟨(some 160), none, (.bin .lss (.t 157) (.t 159))⟩])
      (.cnd (.t 160)
        .skip
        (.exit 4)))
      (.seq (.blk 5 (.seq (.ops [⟨(some 163), none, (.mov (.t 19))⟩,
          ⟨(some 164), none, (.mov (.t 21))⟩,
          ⟨(some 165), none, (.mov (.t 24))⟩,
          ⟨(some 166), none, (.ixA 1 (.t 164) (.t 165))⟩,
          ⟨(some 167), none, (.ld 1 false (.t 166))⟩,
          ⟨(some 168), none, (.callF 37 [(.t 163), (.t 167)])⟩,
          ⟨(some 169), none, (.not (.t 168))⟩])
        (.cnd (.t 169)
          (.seq (.ops [⟨(some 2), none, (.mov (.k (.bool false)))⟩])
          .ret)
          .skip)))
      (.ops [⟨(some 161), none, (.mov (.t 24))⟩,
        ⟨(some 162), none, (.bin .add (.t 161) (.k (.int .i64 1)))⟩,
        ⟨(some 24), none, (.mov (.t 162))⟩]))))))
  (.seq (.seq (.ops [⟨(some 25), none, (.mov (.k (.int .i64 0)))⟩])
  (.blk 6 (.loop (.seq (.seq (.ops [⟨(some 170), none, (.mov (.t 25))⟩,
        ⟨(some 171), none, (.mov (.t 17))⟩,
        ⟨(some 172), none, (.len false (.t 171))⟩,
        ⟨(some 173), none, (.bin .lss (.t 170) (.t 172))⟩])
      (.cnd (.t 173)
        .skip
        (.exit 6)))
      (.seq (.blk 7 (.seq (.ops [⟨(some 26), none, (.mov (.k (.bool false)))⟩])
        (.seq (.seq (.ops [⟨(some 27), none, (.mov (.k (.int .i64 0)))⟩])
        (.blk 8 (.loop (.seq (.seq (.ops [⟨(some 176), none, (.mov (.t 27))⟩,
              ⟨(some 177), none, (.mov (.t 15))⟩,
              ⟨(some 178), none, (.len false (.t 177))⟩,
              ⟨(some 179), none, (.bin .lss (.t 176) (.t 178))⟩])
            (.cnd (.t 179)
              .skip
              (.exit 8)))
            (.seq (.blk 9 (.ops [⟨(some 182), none, (.mov (.t 26))⟩,
                ⟨(some 183), none, (.mov (.t 182))⟩,
                ⟨(some 184), (some (183, false)), (.mov (.t 17))⟩,
                ⟨(some 185), (some (183, false)), (.mov (.t 25))⟩,
                ⟨(some 186), (some (183, false)), (.ixA 1 (.t 184) (.t 185))⟩,
                ⟨(some 187), (some (183, false)), (.ld 1 false (.t 186))⟩,
                ⟨(some 188), (some (183, false)), (.mov (.t 15))⟩,
                ⟨(some 189), (some (183, false)), (.mov (.t 27))⟩,
                ⟨(some 190), (some (183, false)), (.ixA 1 (.t 188) (.t 189))⟩,
                ⟨(some 191), (some (183, false)), (.ld 1 false (.t 190))⟩,
                ⟨(some 192), (some (183, false)), (.callF 40 [(.t 187), (.t 191)])⟩,
                ⟨(some 193), none, (.pick (.t 183) (.k (.bool true)) (.t 192))⟩,
                ⟨(some 26), none, (.mov (.t 193))⟩]))
            (.ops [⟨(some 180), none, (.mov (.t 27))⟩,
              ⟨(some 181), none, (.bin .add (.t 180) (.k (.int .i64 1)))⟩,
              ⟨(some 27), none, (.mov (.t 181))⟩]))))))
        (.seq (.ops [⟨(some 194), none, (.mov (.t 26))⟩,
          ⟨(some 195), none, (.not (.t 194))⟩])
        (.cnd (.t 195)
          (.seq (.ops [⟨(some 2), none, (.mov (.k (.bool false)))⟩])
          .ret)
          .skip)))))
      (.ops [⟨(some 174), none, (.mov (.t 25))⟩,
        ⟨(some 175), none, (.bin .add (.t 174) (.k (.int .i64 1)))⟩,
        ⟨(some 25), none, (.mov (.t 175))⟩]))))))
  (.seq (.ops [⟨(some 196), none, (.callF 16 [])⟩,
    ⟨(some 2), none, (.mov (.t 196))⟩])
  .ret))))))))))))))))))⟩
def hint5 (P : Program) : Hint := { site := [], nils := [], frz := [(63, 43)], mve := [], wr := [] }

theorem narrows_c (nums : List Int) (hn : nums.length < 2 ^ 62) : Fn0 Try.prog 5 [.slc 1 (iR nums) .non] (fun v => v = .bool true) := by
  refine RawC.walk (H := hint5 Try.prog) ir5 Try.func5 rfl rfl rfl ?_
  unfold ir5
  repeat' (first
    | with_reducible (first | refine Rd.p ?_ | refine w_alt ?_ ?_ | refine zE ?_ | refine zE0 ?_)
    | with_reducible (first | refine zI fun y hy => ?_ | refine zL ?_ | refine zS ?_ | refine zA fun _ => ?_ | refine zV ?_ | refine zC ?_ | refine zG ?_ | refine zU ?_ | refine zG0 ?_ | refine zU0 ?_ | refine zF ?_)
    | ((with_reducible refine acall_id ?_); refine ACall.liftS (boxOf_s nums hn) [] (some 6) rfl rfl rfl trivial (fun _ => rfl) ?_; rintro ⟨gb, w⟩ _ rfl)
    | ((with_reducible refine acall_id ?_); refine ACall.box (chainOf_c _ _ 6 5 4 (by omega) (by omega) (by omega)) rfl rfl rfl ?_; rintro _ _ ⟨c, rfl, hE, hk⟩)
    | with_reducible (first | refine zX ?_ | refine zD fun _ => ?_ | refine zD0 ?_ | refine zN ?_ | refine zF0 ?_ | refine zX0 ?_ | refine z1 ?_ | refine z2 ?_ | refine z3 ?_ | refine z4 ?_ | refine z5 ?_ | refine z6 ?_ | refine z7 ?_ | refine z8 ?_ | refine y1 ?_ | refine y2 ?_ | refine y3 ?_ | refine y4 ?_ | refine y5 ?_ | refine y6 ?_ | refine y7 ?_ | refine y8 ?_ | refine Rt.p (fun _ => ?_) fun _ => ?_)
    | ((with_reducible apply w_ixM); (focus exact rfl); (focus exact rfl); case' hk => intro y hy) | ((with_reducible (first | apply w_val | apply q_ends)); (focus exact rfl)))
  have ok := formE_0 (chainE_0 hE).1
  have h7 := ok.n
  have hm := ok.m
  by_cases hls : c.ls = []
  case' pos =>
    repeat' (first
      | with_reducible (first | refine Rd.p ?_ | refine w_alt ?_ ?_ | refine zE ?_ | refine zE0 ?_)
      | with_reducible (first | refine zI fun y hy => ?_ | refine zL ?_ | refine zS ?_ | refine zA fun _ => ?_ | refine zV ?_ | refine zC ?_ | refine zG ?_ | refine zU ?_ | refine zG0 ?_ | refine zU0 ?_ | refine zF ?_)
      | ((with_reducible refine acall_id ?_); refine ACall.liftS (ownChainE_c c hls) [] none rfl rfl rfl trivial (fun _ => rfl) ?_; rintro _ _ rfl)
      | ((with_reducible refine acall_id ?_); refine ACall.box (upp_c _ _ 50 (by omega) (by omega)) rfl rfl rfl ?_; rintro _ _ ⟨day, rfl, hd1, hd2⟩)
      | ((with_reducible refine acall_id ?_); refine ACall.box (part_c9 _ _ c.lo c.hi (by omega)) rfl rfl rfl ?_; rintro _ _ ⟨lo', hi', rfl, hp1, hp2, hp3⟩)
      | with_reducible (first | refine zX ?_ | refine zD fun _ => ?_ | refine zD0 ?_ | refine zN ?_ | refine zF0 ?_ | refine zX0 ?_ | refine z1 ?_ | refine z2 ?_ | refine z3 ?_ | refine z4 ?_ | refine z5 ?_ | refine z6 ?_ | refine z7 ?_ | refine z8 ?_ | refine y1 ?_ | refine y2 ?_ | refine y3 ?_ | refine y4 ?_ | refine y5 ?_ | refine y6 ?_ | refine y7 ?_ | refine y8 ?_ | refine Rt.p (fun _ => ?_) fun _ => ?_)
      | ((with_reducible apply w_ixM); (focus exact rfl); (focus exact rfl); case' hk => intro y hy) | ((with_reducible (first | apply w_val | apply q_ends)); (focus exact rfl)))
    rename_i g4 _ _ g5 _
    obtain ⟨c', hc'⟩ : ∃ c' : Chn, c' = ⟨c.maker, lo', hi', ([] : List (Lnk × Lnk)).map (·.2)⟩ := ⟨_, rfl⟩
    have hN : Nar c c' := by rw [hc']; exact nar_of (by rw [hls]; rfl) (fun x hx => by cases hx) hp1 hp3
    have hE2 : chainE c' = 0 ∨ chainE c' = 12 := by rw [hc']; exact nar_form hE (by rw [hls]; rfl) (fun x hx => by cases hx) hp1 hp3 hp2
    have h00 : ¬ (0 : Int) < ((([] : List Lnk).map fun g => [AV.int .i64 g.f, AV.int .i64 g.t, AV.int .i64 g.lo, AV.int .i64 g.hi]).length : Int) := by decide
    have h01 : ¬ (0 : Int) < (([] : List Lnk).length : Int) := by decide
    refine w_loopK [4, 5, 6] [4, 5] (fun _ : Unit => True) (fun _ => 1) (fun _ => [(7, .int .i64 0)]) (fun _ => []) () trivial ⟨rfl, trivial⟩ trivial ?_
    rintro _ _ e σ
    repeat' (first
      | with_reducible (first | refine Rd.p ?_ | refine w_alt ?_ ?_ | refine zE ?_ | refine zE0 ?_)
      | with_reducible (first | refine zI fun y hy => ?_ | refine zL ?_ | refine zS ?_ | refine zA fun _ => ?_ | refine zV ?_ | refine zC ?_ | refine zG ?_ | refine zU ?_ | refine zG0 ?_ | refine zU0 ?_ | refine zF ?_)
      | with_reducible (first | refine zX ?_ | refine zD fun _ => ?_ | refine zD0 ?_ | refine zN ?_ | refine zF0 ?_ | refine zX0 ?_ | refine z1 ?_ | refine z2 ?_ | refine z3 ?_ | refine z4 ?_ | refine z5 ?_ | refine z6 ?_ | refine z7 ?_ | refine z8 ?_ | refine y1 ?_ | refine y2 ?_ | refine y3 ?_ | refine y4 ?_ | refine y5 ?_ | refine y6 ?_ | refine y7 ?_ | refine y8 ?_ | refine Rt.p (fun _ => ?_) fun _ => ?_)
      | ((with_reducible apply w_ixM); (focus exact rfl); (focus exact rfl); case' hk => intro y hy) | ((with_reducible (first | apply w_val | apply q_ends)); (focus exact rfl)))
    refine w_frzSlK [(4, .ref 4 g4 0), (5, .ref 5 g5 0), (6, .int .i64 day)] [(4, (g4, .row (cC c))), (5, (g5, .row (cC c')))] rfl ⟨rfl, rfl, rfl, trivial⟩ (by refine ⟨rfl, ?_, trivial⟩; rw [hc']; rfl) ?_
    intro e' σ'
  case' neg =>
    repeat' (first
      | with_reducible (first | refine Rd.p ?_ | refine w_alt ?_ ?_ | refine zE ?_ | refine zE0 ?_)
      | with_reducible (first | refine zI fun y hy => ?_ | refine zL ?_ | refine zS ?_ | refine zA fun _ => ?_ | refine zV ?_ | refine zC ?_ | refine zG ?_ | refine zU ?_ | refine zG0 ?_ | refine zU0 ?_ | refine zF ?_)
      | ((with_reducible refine acall_id ?_); refine ACall.liftS (ownChainN_c c hls (by omega)) [] (some 6) rfl rfl rfl trivial (fun _ => rfl) ?_; rintro g33 _ rfl)
      | ((with_reducible refine acall_id ?_); refine ACall.box (upp_c _ _ 50 (by omega) (by omega)) rfl rfl rfl ?_; rintro _ _ ⟨day, rfl, hd1, hd2⟩)
      | ((with_reducible refine acall_id ?_); refine ACall.box (part_c9 _ _ c.lo c.hi (by omega)) rfl rfl rfl ?_; rintro _ _ ⟨lo', hi', rfl, hp1, hp2, hp3⟩)
      | with_reducible (first | refine zX ?_ | refine zD fun _ => ?_ | refine zD0 ?_ | refine zN ?_ | refine zF0 ?_ | refine zX0 ?_ | refine z1 ?_ | refine z2 ?_ | refine z3 ?_ | refine z4 ?_ | refine z5 ?_ | refine z6 ?_ | refine z7 ?_ | refine z8 ?_ | refine y1 ?_ | refine y2 ?_ | refine y3 ?_ | refine y4 ?_ | refine y5 ?_ | refine y6 ?_ | refine y7 ?_ | refine y8 ?_ | refine Rt.p (fun _ => ?_) fun _ => ?_)
      | ((with_reducible apply w_ixM); (focus exact rfl); (focus exact rfl); case' hk => intro y hy) | ((with_reducible (first | apply w_val | apply q_ends)); (focus exact rfl)))
    rename_i g4 _ g5 w1
    refine w_loopK [3, 4, 5, 6] [4, 5] (fun x : List (Lnk × Lnk) × List Lnk × Int => c.ls = x.1.map (·.1) ++ x.2.1 ∧ ∀ y ∈ x.1, NarP y.1 y.2) (fun x => x.2.1.length) (fun x => [(7, .int .i64 x.1.length)]) (fun x => [(29, (gb, .row [.int .u64 x.2.2])), (33, (g33, .row ((x.1.map (·.2) ++ x.2.1).map Lnk.row).flatten))]) ([], c.ls, w1) ⟨rfl, fun y hy => by cases hy⟩ ⟨rfl, trivial⟩ (by
      refine ⟨rfl, ?_, trivial⟩
      show (g33, Res.row (renL _ (List.map Lnk.row c.ls).flatten)) = _
      rw [lnkR.rens]; rfl) ?_
    rintro ⟨pre, post, w2⟩ ⟨hpp, hpn⟩ e σ
    dsimp only at hpp hpn ⊢
    have hlen := congrArg List.length hpp
    rw [List.length_append, List.length_map] at hlen
    rcases post with _ | ⟨y, post⟩
  case' neg.nil =>
    rw [List.append_nil] at hpp
    simp only [List.length_nil] at hlen
    simp only [List.append_nil]
    obtain ⟨c', hc'⟩ : ∃ c' : Chn, c' = ⟨c.maker, lo', hi', pre.map (·.2)⟩ := ⟨_, rfl⟩
    have hN : Nar c c' := by rw [hc']; exact nar_of hpp hpn hp1 hp3
    have hE2 : chainE c' = 0 ∨ chainE c' = 12 := by rw [hc']; exact nar_form hE hpp hpn hp1 hp3 hp2
    repeat' (first
      | with_reducible (first | refine Rd.p ?_ | refine w_alt ?_ ?_ | refine zE ?_ | refine zE0 ?_)
      | with_reducible (first | refine zI fun y hy => ?_ | refine zL ?_ | refine zS ?_ | refine zA fun _ => ?_ | refine zV ?_ | refine zC ?_ | refine zG ?_ | refine zU ?_ | refine zG0 ?_ | refine zU0 ?_ | refine zF ?_)
      | with_reducible (first | refine zX ?_ | refine zD fun _ => ?_ | refine zD0 ?_ | refine zN ?_ | refine zF0 ?_ | refine zX0 ?_ | refine z1 ?_ | refine z2 ?_ | refine z3 ?_ | refine z4 ?_ | refine z5 ?_ | refine z6 ?_ | refine z7 ?_ | refine z8 ?_ | refine y1 ?_ | refine y2 ?_ | refine y3 ?_ | refine y4 ?_ | refine y5 ?_ | refine y6 ?_ | refine y7 ?_ | refine y8 ?_ | refine Rt.p (fun _ => ?_) fun _ => ?_)
      | ((with_reducible apply w_ixM); (focus exact rfl); (focus exact rfl); case' hk => intro y hy) | ((with_reducible (first | apply w_val | apply q_ends)); (focus exact rfl)))
    refine w_frzG [(4, .ref 4 g4 0), (5, .ref 5 g5 0), (6, .int .i64 day)] [(4, (g4, .row (cC c))), (5, (g5, .row (cC c')))] rfl rfl (lnkR.scals _) ⟨rfl, rfl, rfl, trivial⟩ ?_ ?_
    · refine ⟨frzS_at rfl (by decide) rfl, frzS_at rfl (by decide) ?_, trivial⟩
      show frzL 33 g33 _ [.int .i64 c.maker, .int .i64 lo', .int .i64 hi', .msl 33 g33 c.ls.length 4] = _
      have hpl : (pre.map (·.2)).length = c.ls.length := by rw [List.length_map]; omega
      simp only [frzL, frzA_mslR lnkR hpl]
      rw [hc']; rfl
    intro e' σ'
  case' neg.cons =>
    simp only [List.length_cons] at hlen
    have hy := lnkE_0 (chain_links hE y (by rw [hpp]; simp))
    have hpl : ∀ z : Lnk × Lnk, (pre ++ [z]).length = pre.length + 1 := fun z => by simp
    have hmp : ∀ z : Lnk × Lnk, (pre ++ [z]).map (·.2) ++ post = pre.map (·.2) ++ z.2 :: post := fun z => by simp
    repeat' (first
      | with_reducible (first | refine Rd.p ?_ | refine w_alt ?_ ?_ | refine zE ?_ | refine zE0 ?_)
      | (refine w_ldM2 (pre := pre.map (·.2)) rfl rfl (by simp) ?_)
      | (refine w_stM2 (pre := pre.map (·.2)) rfl rfl rfl (by simp) ?_)
      | with_reducible (first | refine zI fun y hy => ?_ | refine zL ?_ | refine zS ?_ | refine zA fun _ => ?_ | refine zV ?_ | refine zC ?_ | refine zG ?_ | refine zU ?_ | refine zG0 ?_ | refine zU0 ?_ | refine zF ?_)
      | ((with_reducible refine acall_id ?_); refine ACall.box (one_c _ _ 2 (by omega)) rfl rfl rfl ?_; rintro _ _ ⟨b, rfl⟩)
      | ((with_reducible refine acall_id ?_); refine ACall.box (part_c9 _ _ y.lo y.hi (by omega)) rfl rfl rfl ?_; rintro _ _ ⟨m1, m2, rfl, hq1, hq2, hq3⟩)
      | with_reducible (first | refine zX ?_ | refine zD fun _ => ?_ | refine zD0 ?_ | refine zN ?_ | refine zF0 ?_ | refine zX0 ?_ | refine z1 ?_ | refine z2 ?_ | refine z3 ?_ | refine z4 ?_ | refine z5 ?_ | refine z6 ?_ | refine z7 ?_ | refine z8 ?_ | refine y1 ?_ | refine y2 ?_ | refine y3 ?_ | refine y4 ?_ | refine y5 ?_ | refine y6 ?_ | refine y7 ?_ | refine y8 ?_ | refine Rt.p (fun _ => ?_) fun _ => ?_)
      | ((with_reducible apply w_ixM); (focus exact rfl); (focus exact rfl); case' hk => intro y hy) | ((with_reducible (first | apply w_val | apply q_ends)); (focus exact rfl)))
    · refine q_loop (pre ++ [(y, ⟨y.f, y.t, m1, m2⟩)], post, _) ⟨by dsimp only; rw [hpp]; simp, fun z hz => ?_⟩ (by simp) (slots_cons (by show AV.int .i64 _ = AV.int .i64 _; refine int_eq ?_; dsimp only; rw [hpl]; omega) slots_nil) (by refine ⟨rfl, ?_, trivial⟩; show _ = (g33, Res.row (((pre ++ [_]).map (fun z : Lnk × Lnk => z.2) ++ post).map Lnk.row).flatten); rw [hmp]; rfl) (by repeat' (first | exact kept_nil | apply kept_cons | rfl)) (by repeat' (first | exact kept_nil | apply kept_cons | rfl))
      rcases List.mem_append.1 hz with hz | hz
      · exact hpn z hz
      · obtain rfl : z = (y, ⟨y.f, y.t, m1, m2⟩) := by simpa using hz
        exact ⟨rfl, rfl, hq1, hq2, hq3⟩
    · refine q_loop (pre ++ [(y, y)], post, _) ⟨by dsimp only; rw [hpp]; simp, fun z hz => ?_⟩ (by simp) (slots_cons (by show AV.int .i64 _ = AV.int .i64 _; refine int_eq ?_; dsimp only; rw [hpl]; omega) slots_nil) (by refine ⟨rfl, ?_, trivial⟩; show _ = (g33, Res.row (((pre ++ [_]).map (fun z : Lnk × Lnk => z.2) ++ post).map Lnk.row).flatten); rw [hmp]; rfl) (by repeat' (first | exact kept_nil | apply kept_cons | rfl)) (by repeat' (first | exact kept_nil | apply kept_cons | rfl))
      rcases List.mem_append.1 hz with hz | hz
      · exact hpn z hz
      · obtain rfl : z = (y, y) := by simpa using hz
        exact ⟨rfl, rfl, Int.le_refl _, by dsimp only; omega, Int.le_refl _⟩
  all_goals
    have hn' := hN.n
    have hck := check_s c' (by omega)
    rcases hE2 with hE' | hE'
    case' inr =>
      rw [hE'] at hck
      repeat' (first
        | with_reducible (first | refine Rd.p ?_ | refine w_alt ?_ ?_ | refine zE ?_ | refine zE0 ?_)
        | with_reducible (first | refine zI fun y hy => ?_ | refine zL ?_ | refine zS ?_ | refine zA fun _ => ?_ | refine zV ?_ | refine zC ?_ | refine zG ?_ | refine zU ?_ | refine zG0 ?_ | refine zU0 ?_ | refine zF ?_)
        | ((with_reducible refine acall_id ?_); refine ACall.val hck rfl rfl ?_)
        | ((with_reducible refine acall_id ?_); refine ACall.val wake_s rfl rfl ?_)
        | with_reducible (first | refine zX ?_ | refine zD fun _ => ?_ | refine zD0 ?_ | refine zN ?_ | refine zF0 ?_ | refine zX0 ?_ | refine z1 ?_ | refine z2 ?_ | refine z3 ?_ | refine z4 ?_ | refine z5 ?_ | refine z6 ?_ | refine z7 ?_ | refine z8 ?_ | refine y1 ?_ | refine y2 ?_ | refine y3 ?_ | refine y4 ?_ | refine y5 ?_ | refine y6 ?_ | refine y7 ?_ | refine y8 ?_ | refine Rt.p (fun _ => ?_) fun _ => ?_)
        | ((with_reducible apply w_ixM); (focus exact rfl); (focus exact rfl); case' hk => intro y hy) | ((with_reducible (first | apply w_val | apply q_ends)); (focus exact rfl)))
      rfl
    rw [hE'] at hck
    have ok' := formE_0 (chainE_0 hE').1
    have hin : inB day 0 100000 = true := inB_t.2 (by omega)
    have ha : askE c day = 0 := by rw [askE, if_pos hE, if_pos hin]
    have ha2 : askE c' day = 0 := by rw [askE, if_pos hE', if_pos hin]
    have hD := daysV_s c (by omega) hE
    have hD' := daysV_s c' (by omega) hE'
    have hO := ordersV_s c (by omega) hE
    have hO' := ordersV_s c' (by omega) hE'
    have hH := HoldersV_s c day (by omega) ha
    have hH' := HoldersV_s c' day (by omega) ha2
    have hNd := hN.days (okc_days ok) (okc_days ok')
    have hW := within9_c (madeLo c') (madeHi c') (madeLo c) (madeHi c)
    rw [decide_eq_true hNd.1, decide_eq_true hNd.2.1] at hW
    have hsub : ∀ w ∈ holL c' day, w ∈ holL c day := fun w hw => (holL_mem ok).2 (hN.hold (okc_days ok) (okc_days ok') ((holL_mem ok').1 hw))
    have hosub : ∀ o ∈ ordsF c', o ∈ ordsF c := by
      intro o ho
      rw [ordsF, if_pos hE'] at ho
      rw [ordsF, if_pos hE]
      obtain ⟨x, hx, rfl⟩ := List.mem_map.1 ho
      exact List.mem_map.2 ⟨_, (hN.tale (okc_days ok) (okc_days ok') hx).1, rfl⟩
    have hHl : (holL c day).length < 1000 := by
      have := List.length_filter_le (p := fun w => @decide _ (Classical.propDecidable (holdC c day w))) ((List.range 21).map fun (k : Nat) => (k : Int) - 1)
      simp only [List.length_map, List.length_range] at this
      unfold holL; omega
    have hHl' : (holL c' day).length < 1000 := by
      have := List.length_filter_le (p := fun w => @decide _ (Classical.propDecidable (holdC c' day w))) ((List.range 21).map fun (k : Nat) => (k : Int) - 1)
      simp only [List.length_map, List.length_range] at this
      unfold holL; omega
    have hRl : (ordsF c).length < 1000000 := by rw [ordsF, if_pos hE, List.length_map]; exact talesF_len c h7
    have hRl' : (ordsF c').length < 1000000 := by rw [ordsF, if_pos hE', List.length_map]; exact talesF_len c' (by omega)
    have hlenD : ((List.range c.ls.length).map fun k => (linkLo c k, linkHi c k)).length = c.ls.length := by simp
    have hlenD' : ((List.range c'.ls.length).map fun k => (linkLo c' k, linkHi c' k)).length = c'.ls.length := by simp
    have hgD := fun k (hk : k < c.ls.length) => range_get (f := fun k => (linkLo c k, linkHi c k)) hk
    have hgD' := fun k (hk : k < c'.ls.length) => range_get (f := fun k => (linkLo c' k, linkHi c' k)) hk
    generalize ((List.range c.ls.length).map fun k => (linkLo c k, linkHi c k)) = D at *
    generalize ((List.range c'.ls.length).map fun k => (linkLo c' k, linkHi c' k)) = D' at *
    generalize hHH : holL c day = H at *
    generalize hHH' : holL c' day = H' at *
    generalize hRR : ordsF c = R at *
    generalize hRR' : ordsF c' = R' at *
    repeat' (first
      | with_reducible (first | refine Rd.p ?_ | refine w_alt ?_ ?_ | refine zE ?_ | refine zE0 ?_)
      | with_reducible (first | refine zI fun y hy => ?_ | refine zL ?_ | refine zS ?_ | refine zA fun _ => ?_ | refine zV ?_ | refine zC ?_ | refine zG ?_ | refine zU ?_ | refine zG0 ?_ | refine zU0 ?_ | refine zF ?_)
      | ((with_reducible refine acall_id ?_); refine ACall.val hck rfl rfl ?_)
      | ((with_reducible refine acall_id ?_); refine ACall.val hD rfl rfl ?_)
      | ((with_reducible refine acall_id ?_); refine ACall.val hD' rfl rfl ?_)
      | ((with_reducible refine acall_id ?_); refine ACall.val hO rfl rfl ?_)
      | ((with_reducible refine acall_id ?_); refine ACall.val hO' rfl rfl ?_)
      | ((with_reducible refine acall_id ?_); refine ACall.val hH rfl rfl ?_)
      | ((with_reducible refine acall_id ?_); refine ACall.val hH' rfl rfl ?_)
      | ((with_reducible refine acall_id ?_); refine ACall.val hW rfl rfl ?_)
      | with_reducible (first | refine zX ?_ | refine zD fun _ => ?_ | refine zD0 ?_ | refine zN ?_ | refine zF0 ?_ | refine zX0 ?_ | refine z1 ?_ | refine z2 ?_ | refine z3 ?_ | refine z4 ?_ | refine z5 ?_ | refine z6 ?_ | refine z7 ?_ | refine z8 ?_ | refine y1 ?_ | refine y2 ?_ | refine y3 ?_ | refine y4 ?_ | refine y5 ?_ | refine y6 ?_ | refine y7 ?_ | refine y8 ?_ | refine Rt.p (fun _ => ?_) fun _ => ?_)
      | ((with_reducible apply w_ixM); (focus exact rfl); (focus exact rfl); case' hk => intro y hy) | ((with_reducible (first | apply w_val | apply q_ends)); (focus exact rfl)))
    · exfalso; rename_i h; exact absurd h (by decide)
    have hDl : D.length = D'.length := by omega
    refine w_loopK [10, 13, 15, 17, 19, 21] [] (fun k : Nat => k ≤ D.length) (fun k => D.length - k) (fun k => [(23, .int .i64 k)]) (fun _ => []) 0 (Nat.zero_le _) ⟨rfl, trivial⟩ trivial ?_
    rintro k hk e σ
    dsimp only at hk ⊢
    by_cases hkl : k < D.length
    · have g1 := hgD k (by omega)
      have g2 := hgD' k (by omega)
      have hWk := within9_c (linkLo c' k) (linkHi c' k) (linkLo c k) (linkHi c k)
      have hnk := hNd.2.2 k (by omega)
      rw [decide_eq_true hnk.1, decide_eq_true hnk.2] at hWk
      repeat' (first
        | with_reducible (first | refine Rd.p ?_ | refine w_alt ?_ ?_ | refine zE ?_ | refine zE0 ?_)
        | (refine w_ixE g1 rfl rfl ?_)
        | (refine w_ixE g2 rfl rfl ?_)
        | with_reducible (first | refine zI fun y hy => ?_ | refine zL ?_ | refine zS ?_ | refine zA fun _ => ?_ | refine zV ?_ | refine zC ?_ | refine zG ?_ | refine zU ?_ | refine zG0 ?_ | refine zU0 ?_ | refine zF ?_)
        | ((with_reducible refine acall_id ?_); refine ACall.val hWk rfl rfl ?_)
        | with_reducible (first | refine zX ?_ | refine zD fun _ => ?_ | refine zD0 ?_ | refine zN ?_ | refine zF0 ?_ | refine zX0 ?_ | refine z1 ?_ | refine z2 ?_ | refine z3 ?_ | refine z4 ?_ | refine z5 ?_ | refine z6 ?_ | refine z7 ?_ | refine z8 ?_ | refine y1 ?_ | refine y2 ?_ | refine y3 ?_ | refine y4 ?_ | refine y5 ?_ | refine y6 ?_ | refine y7 ?_ | refine y8 ?_ | refine Rt.p (fun _ => ?_) fun _ => ?_)
        | ((with_reducible apply w_ixM); (focus exact rfl); (focus exact rfl); case' hk => intro y hy) | ((with_reducible (first | apply w_val | apply q_ends)); (focus exact rfl)))
      exact q_loop (k + 1) (by show k + 1 ≤ _; omega) (by show D.length - (k + 1) < D.length - k; omega) (slots_cons (by show AV.int .i64 _ = AV.int .i64 _; refine int_eq ?_; simp) slots_nil) trivial (by repeat' (first | exact kept_nil | apply kept_cons | rfl)) (by repeat' (first | exact kept_nil | apply kept_cons | rfl))
    repeat' (first
      | with_reducible (first | refine Rd.p ?_ | refine w_alt ?_ ?_ | refine zE ?_ | refine zE0 ?_)
      | with_reducible (first | refine zI fun y hy => ?_ | refine zL ?_ | refine zS ?_ | refine zA fun _ => ?_ | refine zV ?_ | refine zC ?_ | refine zG ?_ | refine zU ?_ | refine zG0 ?_ | refine zU0 ?_ | refine zF ?_)
      | with_reducible (first | refine zX ?_ | refine zD fun _ => ?_ | refine zD0 ?_ | refine zN ?_ | refine zF0 ?_ | refine zX0 ?_ | refine z1 ?_ | refine z2 ?_ | refine z3 ?_ | refine z4 ?_ | refine z5 ?_ | refine z6 ?_ | refine z7 ?_ | refine z8 ?_ | refine y1 ?_ | refine y2 ?_ | refine y3 ?_ | refine y4 ?_ | refine y5 ?_ | refine y6 ?_ | refine y7 ?_ | refine y8 ?_ | refine Rt.p (fun _ => ?_) fun _ => ?_)
      | ((with_reducible apply w_ixM); (focus exact rfl); (focus exact rfl); case' hk => intro y hy) | ((with_reducible (first | apply w_val | apply q_ends)); (focus exact rfl)))
    refine w_loopK [15, 17, 19, 21] [] (fun x : List Int × List Int => H' = x.1 ++ x.2) (fun x => x.2.length) (fun x => [(24, .int .i64 x.1.length)]) (fun _ => []) ([], H') rfl ⟨rfl, trivial⟩ trivial ?_
    rintro ⟨pre, post⟩ hpp e σ
    dsimp only at hpp ⊢
    have hlen := congrArg List.length hpp
    rw [List.length_append] at hlen
    cases post with
    | cons y post =>
      simp only [List.length_cons] at hlen
      have hy := has_c H y (by omega)
      rw [decide_eq_true (hsub y (by rw [hpp]; simp))] at hy
      repeat' (first
        | with_reducible (first | refine Rd.p ?_ | refine w_alt ?_ ?_ | refine zE ?_ | refine zE0 ?_)
        | (refine w_ixP hpp rfl rfl ?_)
        | with_reducible (first | refine zI fun y hy => ?_ | refine zL ?_ | refine zS ?_ | refine zA fun _ => ?_ | refine zV ?_ | refine zC ?_ | refine zG ?_ | refine zU ?_ | refine zG0 ?_ | refine zU0 ?_ | refine zF ?_)
        | ((with_reducible refine acall_id ?_); refine ACall.val hy rfl rfl ?_)
        | with_reducible (first | refine zX ?_ | refine zD fun _ => ?_ | refine zD0 ?_ | refine zN ?_ | refine zF0 ?_ | refine zX0 ?_ | refine z1 ?_ | refine z2 ?_ | refine z3 ?_ | refine z4 ?_ | refine z5 ?_ | refine z6 ?_ | refine z7 ?_ | refine z8 ?_ | refine y1 ?_ | refine y2 ?_ | refine y3 ?_ | refine y4 ?_ | refine y5 ?_ | refine y6 ?_ | refine y7 ?_ | refine y8 ?_ | refine Rt.p (fun _ => ?_) fun _ => ?_)
        | ((with_reducible apply w_ixM); (focus exact rfl); (focus exact rfl); case' hk => intro y hy) | ((with_reducible (first | apply w_val | apply q_ends)); (focus exact rfl)))
      refine q_loop (pre ++ [y], post) (by show H' = _; rw [hpp]; simp) (by simp) (slots_cons (by show AV.int .i64 _ = AV.int .i64 _; refine int_eq ?_; simp) slots_nil) trivial (by repeat' (first | exact kept_nil | apply kept_cons | rfl)) (by repeat' (first | exact kept_nil | apply kept_cons | rfl))
    | nil =>
    simp only [List.length_nil] at hlen
    repeat' (first
      | with_reducible (first | refine Rd.p ?_ | refine w_alt ?_ ?_ | refine zE ?_ | refine zE0 ?_)
      | with_reducible (first | refine zI fun y hy => ?_ | refine zL ?_ | refine zS ?_ | refine zA fun _ => ?_ | refine zV ?_ | refine zC ?_ | refine zG ?_ | refine zU ?_ | refine zG0 ?_ | refine zU0 ?_ | refine zF ?_)
      | with_reducible (first | refine zX ?_ | refine zD fun _ => ?_ | refine zD0 ?_ | refine zN ?_ | refine zF0 ?_ | refine zX0 ?_ | refine z1 ?_ | refine z2 ?_ | refine z3 ?_ | refine z4 ?_ | refine z5 ?_ | refine z6 ?_ | refine z7 ?_ | refine z8 ?_ | refine y1 ?_ | refine y2 ?_ | refine y3 ?_ | refine y4 ?_ | refine y5 ?_ | refine y6 ?_ | refine y7 ?_ | refine y8 ?_ | refine Rt.p (fun _ => ?_) fun _ => ?_)
      | ((with_reducible apply w_ixM); (focus exact rfl); (focus exact rfl); case' hk => intro y hy) | ((with_reducible (first | apply w_val | apply q_ends)); (focus exact rfl)))
    refine w_loopK [15, 17] [] (fun x : List (List Int) × List (List Int) => R' = x.1 ++ x.2) (fun x => x.2.length) (fun x => [(25, .int .i64 x.1.length)]) (fun _ => []) ([], R') rfl ⟨rfl, trivial⟩ trivial ?_
    rintro ⟨pre, post⟩ hpp e σ
    dsimp only at hpp ⊢
    have hlen := congrArg List.length hpp
    rw [List.length_append] at hlen
    cases post with
    | nil =>
      simp only [List.length_nil] at hlen
      repeat' (first
        | with_reducible (first | refine Rd.p ?_ | refine w_alt ?_ ?_ | refine zE ?_ | refine zE0 ?_)
        | with_reducible (first | refine zI fun y hy => ?_ | refine zL ?_ | refine zS ?_ | refine zA fun _ => ?_ | refine zV ?_ | refine zC ?_ | refine zG ?_ | refine zU ?_ | refine zG0 ?_ | refine zU0 ?_ | refine zF ?_)
        | ((with_reducible refine acall_id ?_); refine ACall.val wake_s rfl rfl ?_)
        | with_reducible (first | refine zX ?_ | refine zD fun _ => ?_ | refine zD0 ?_ | refine zN ?_ | refine zF0 ?_ | refine zX0 ?_ | refine z1 ?_ | refine z2 ?_ | refine z3 ?_ | refine z4 ?_ | refine z5 ?_ | refine z6 ?_ | refine z7 ?_ | refine z8 ?_ | refine y1 ?_ | refine y2 ?_ | refine y3 ?_ | refine y4 ?_ | refine y5 ?_ | refine y6 ?_ | refine y7 ?_ | refine y8 ?_ | refine Rt.p (fun _ => ?_) fun _ => ?_)
        | ((with_reducible apply w_ixM); (focus exact rfl); (focus exact rfl); case' hk => intro y hy) | ((with_reducible (first | apply w_val | apply q_ends)); (focus exact rfl)))
      rfl
    | cons y post =>
    simp only [List.length_cons] at hlen
    have hyR := hosub y (by rw [hpp]; simp)
    repeat' (first
      | with_reducible (first | refine Rd.p ?_ | refine w_alt ?_ ?_ | refine zE ?_ | refine zE0 ?_)
      | with_reducible (first | refine zI fun y hy => ?_ | refine zL ?_ | refine zS ?_ | refine zA fun _ => ?_ | refine zV ?_ | refine zC ?_ | refine zG ?_ | refine zU ?_ | refine zG0 ?_ | refine zU0 ?_ | refine zF ?_)
      | with_reducible (first | refine zX ?_ | refine zD fun _ => ?_ | refine zD0 ?_ | refine zN ?_ | refine zF0 ?_ | refine zX0 ?_ | refine z1 ?_ | refine z2 ?_ | refine z3 ?_ | refine z4 ?_ | refine z5 ?_ | refine z6 ?_ | refine z7 ?_ | refine z8 ?_ | refine y1 ?_ | refine y2 ?_ | refine y3 ?_ | refine y4 ?_ | refine y5 ?_ | refine y6 ?_ | refine y7 ?_ | refine y8 ?_ | refine Rt.p (fun _ => ?_) fun _ => ?_)
      | ((with_reducible apply w_ixM); (focus exact rfl); (focus exact rfl); case' hk => intro y hy) | ((with_reducible (first | apply w_val | apply q_ends)); (focus exact rfl)))
    refine w_loopK [15, 17, 25] [] (fun x : List (List Int) × List (List Int) => R = x.1 ++ x.2) (fun x => x.2.length) (fun x => [(27, .int .i64 x.1.length), (26, .bool (decide (y ∈ x.1)))]) (fun _ => []) ([], R) rfl ⟨rfl, rfl, trivial⟩ trivial ?_
    rintro ⟨pre2, post2⟩ hpp2 e σ
    dsimp only at hpp2 ⊢
    have hlen2 := congrArg List.length hpp2
    rw [List.length_append] at hlen2
    cases post2 with
    | nil =>
      simp only [List.length_nil] at hlen2
      rw [List.append_nil] at hpp2
      rw [decide_eq_true (show y ∈ pre2 by rw [← hpp2]; exact hyR)]
      repeat' (first
        | with_reducible (first | refine Rd.p ?_ | refine w_alt ?_ ?_ | refine zE ?_ | refine zE0 ?_)
        | with_reducible (first | refine zI fun y hy => ?_ | refine zL ?_ | refine zS ?_ | refine zA fun _ => ?_ | refine zV ?_ | refine zC ?_ | refine zG ?_ | refine zU ?_ | refine zG0 ?_ | refine zU0 ?_ | refine zF ?_)
        | with_reducible (first | refine zX ?_ | refine zD fun _ => ?_ | refine zD0 ?_ | refine zN ?_ | refine zF0 ?_ | refine zX0 ?_ | refine z1 ?_ | refine z2 ?_ | refine z3 ?_ | refine z4 ?_ | refine z5 ?_ | refine z6 ?_ | refine z7 ?_ | refine z8 ?_ | refine y1 ?_ | refine y2 ?_ | refine y3 ?_ | refine y4 ?_ | refine y5 ?_ | refine y6 ?_ | refine y7 ?_ | refine y8 ?_ | refine Rt.p (fun _ => ?_) fun _ => ?_)
        | ((with_reducible apply w_ixM); (focus exact rfl); (focus exact rfl); case' hk => intro y hy) | ((with_reducible (first | apply w_val | apply q_ends)); (focus exact rfl)))
      refine q_loop (pre ++ [y], post) (by show R' = _; rw [hpp]; simp) (by simp) (slots_cons (by show AV.int .i64 _ = AV.int .i64 _; refine int_eq ?_; simp) slots_nil) trivial (by repeat' (first | exact kept_nil | apply kept_cons | rfl)) (by repeat' (first | exact kept_nil | apply kept_cons | rfl))
    | cons z post2 =>
      simp only [List.length_cons] at hlen2
      have hyz := eq_c y z (by
        have := ordsF_mem (c := c') (o := y) (by rw [hRR', hpp]; simp)
        omega)
      by_cases hm : y ∈ pre2
      · rw [decide_eq_true hm]
        repeat' (first
          | with_reducible (first | refine Rd.p ?_ | refine w_alt ?_ ?_ | refine zE ?_ | refine zE0 ?_)
          | with_reducible (first | refine zI fun y hy => ?_ | refine zL ?_ | refine zS ?_ | refine zA fun _ => ?_ | refine zV ?_ | refine zC ?_ | refine zG ?_ | refine zU ?_ | refine zG0 ?_ | refine zU0 ?_ | refine zF ?_)
          | with_reducible (first | refine zX ?_ | refine zD fun _ => ?_ | refine zD0 ?_ | refine zN ?_ | refine zF0 ?_ | refine zX0 ?_ | refine z1 ?_ | refine z2 ?_ | refine z3 ?_ | refine z4 ?_ | refine z5 ?_ | refine z6 ?_ | refine z7 ?_ | refine z8 ?_ | refine y1 ?_ | refine y2 ?_ | refine y3 ?_ | refine y4 ?_ | refine y5 ?_ | refine y6 ?_ | refine y7 ?_ | refine y8 ?_ | refine Rt.p (fun _ => ?_) fun _ => ?_)
          | ((with_reducible apply w_ixM); (focus exact rfl); (focus exact rfl); case' hk => intro y hy) | ((with_reducible (first | apply w_val | apply q_ends)); (focus exact rfl)))
        refine q_loop (pre2 ++ [z], post2) (by show R = _; rw [hpp2]; simp) (by simp) (slots_cons (by show AV.int .i64 _ = AV.int .i64 _; refine int_eq ?_; simp) (slots_cons (by show AV.bool _ = AV.bool _; simp [hm]) slots_nil)) trivial (by repeat' (first | exact kept_nil | apply kept_cons | rfl)) (by repeat' (first | exact kept_nil | apply kept_cons | rfl))
      · rw [decide_eq_false hm]
        repeat' (first
          | with_reducible (first | refine Rd.p ?_ | refine w_alt ?_ ?_ | refine zE ?_ | refine zE0 ?_)
          | (refine w_ixP hpp rfl rfl ?_)
          | (refine w_ixP hpp2 rfl rfl ?_)
          | with_reducible (first | refine zI fun y hy => ?_ | refine zL ?_ | refine zS ?_ | refine zA fun _ => ?_ | refine zV ?_ | refine zC ?_ | refine zG ?_ | refine zU ?_ | refine zG0 ?_ | refine zU0 ?_ | refine zF ?_)
          | ((with_reducible refine acall_id ?_); refine ACall.val hyz rfl rfl ?_)
          | with_reducible (first | refine zX ?_ | refine zD fun _ => ?_ | refine zD0 ?_ | refine zN ?_ | refine zF0 ?_ | refine zX0 ?_ | refine z1 ?_ | refine z2 ?_ | refine z3 ?_ | refine z4 ?_ | refine z5 ?_ | refine z6 ?_ | refine z7 ?_ | refine z8 ?_ | refine y1 ?_ | refine y2 ?_ | refine y3 ?_ | refine y4 ?_ | refine y5 ?_ | refine y6 ?_ | refine y7 ?_ | refine y8 ?_ | refine Rt.p (fun _ => ?_) fun _ => ?_)
          | ((with_reducible apply w_ixM); (focus exact rfl); (focus exact rfl); case' hk => intro y hy) | ((with_reducible (first | apply w_val | apply q_ends)); (focus exact rfl)))
        refine q_loop (pre2 ++ [z], post2) (by show R = _; rw [hpp2]; simp) (by simp) (slots_cons (by show AV.int .i64 _ = AV.int .i64 _; refine int_eq ?_; simp) (slots_cons (by show AV.bool _ = AV.bool _; simp [hm]) slots_nil)) trivial (by repeat' (first | exact kept_nil | apply kept_cons | rfl)) (by repeat' (first | exact kept_nil | apply kept_cons | rfl))
end Go.Abs
