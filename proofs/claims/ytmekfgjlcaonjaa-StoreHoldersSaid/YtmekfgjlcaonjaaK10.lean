/- A part of the proofs of the laws of this seat: contracts of the functions that they reach, each proved of the program's form in Lean. No condition beyond those that each contract names. -/
import Derived.Test.YtmekfgjlcaonjaaK11
import Derived.Test.YtmekfgjlcaonjaaK7
import Derived.Test.YtmekfgjlcaonjaaK6
import Derived.Test.YtmekfgjlcaonjaaK5
import Derived.Test.YtmekfgjlcaonjaaK4
import Derived.Test.YtmekfgjlcaonjaaK3
import Derived.Test.YtmekfgjlcaonjaaK2
import Derived.Test.YtmekfgjlcaonjaaK1
import Derived.Test.YtmekfgjlcaonjaaC13
import Derived.Test.YtmekfgjlcaonjaaD8
import Derived.Test.YtmekfgjlcaonjaaD7
import Derived.Test.YtmekfgjlcaonjaaD5
import Derived.Test.YtmekfgjlcaonjaaD4
import Derived.Test.YtmekfgjlcaonjaaD3
import Derived.Test.YtmekfgjlcaonjaaD2
import Derived.Test.YtmekfgjlcaonjaaD1
import Derived.Test.YtmekfgjlcaonjaaC12
import Derived.Test.YtmekfgjlcaonjaaC11
import Derived.Test.YtmekfgjlcaonjaaC10
import Derived.Test.YtmekfgjlcaonjaaC9
import Derived.Test.YtmekfgjlcaonjaaC8
import Derived.Test.YtmekfgjlcaonjaaC7
import Derived.Test.YtmekfgjlcaonjaaC5
import Derived.Test.YtmekfgjlcaonjaaC4
import Derived.Test.YtmekfgjlcaonjaaC2
import Derived.Test.YtmekfgjlcaonjaaC1
import Derived.Test.YtmekfgjlcaonjaaB
import Derived.Test.YtmekfgjlcaonjaaC16
import Derived.Test.YtmekfgjlcaonjaaC6
import Derived.Test.YtmekfgjlcaonjaaC3
set_option linter.unusedVariables false
set_option linter.unusedSimpArgs false
set_option maxRecDepth 20000
set_option maxHeartbeats 4000000
namespace Go.Abs
open Go.Proofs
/-- aloeswood/aloeswoodlaw09.StoreHolders -/
def ir8 : IFn :=
  ⟨192, [(10, none)], (.seq (.ops [⟨(some 5), none, (.box 4 (.t 0))⟩,
    ⟨(some 8), none, (.box 4 (.t 3))⟩,
    ⟨(some 10), none, (.mov (.k (.bool false)))⟩])
  (.seq (.seq (.ops [⟨(some 33), none, (.ld 4 true (.t 5))⟩,
    ⟨(some 34), none, (.callF 15 [(.t 33)])⟩])
  (.cnd (.t 34)
    (.seq (.ops [⟨(some 35), none, (.callF 16 [])⟩,
      ⟨(some 10), none, (.mov (.t 35))⟩])
    .ret)
    .skip))
  (.seq (.ops [⟨(some 36), none, (.mov (.t 4))⟩,
    ⟨(some 37), none, (.callF 17 [(.t 36)])⟩,
    ⟨(some 11), none, (.mov (.t 37))⟩])
  (.seq (.ops [⟨(some 38), none, (.mov (.t 11))⟩,
    ⟨(some 39), none, (.callF 18 [(.t 38), (.k (.int .i64 6)), (.k (.int .i64 6)), (.k (.int .i64 4))])⟩,
    ⟨(some 12), none, (.new [(.int .i64 0), (.int .i64 0), (.int .i64 0), .nsl])⟩,
    ⟨none, none, (.st 4 (.t 12) (.t 39))⟩])
  (.seq (.ops [⟨(some 40), none, (.mov (.t 11))⟩,
    ⟨(some 41), none, (.callF 20 [(.t 40), (.k (.int .i64 50))])⟩,
    ⟨(some 13), none, (.mov (.t 41))⟩])
  (.seq (.ops [⟨(some 42), none, (.mov (.t 11))⟩,
    ⟨(some 43), none, (.callF 20 [(.t 42), (.k (.int .i64 5))])⟩,
    ⟨(some 44), none, (.mov (.t 11))⟩,
    ⟨(some 45), none, (.callF 20 [(.t 44), (.k (.int .i64 5))])⟩,
    ⟨(some 46), none, (.mov (.t 13))⟩,
    ⟨(some 47), none, (.mov (.t 13))⟩,
    ⟨(some 48), none, (.mov (.t 11))⟩,
    ⟨(some 49), none, (.callF 20 [(.t 48), (.k (.int .i64 20))])⟩,
    ⟨(some 50), none, (.bin .add (.t 47) (.t 49))⟩,
    ⟨(some 51), none, (.bld [(.int .i64 0), (.int .i64 0)] [(0, 1, (.t 46)), (1, 1, (.t 50))])⟩,
    ⟨(some 52), none, (.bld [(.int .i64 0), (.int .i64 0), (.int .i64 0), (.int .i64 0)] [(0, 1, (.t 43)), (1, 1, (.t 45)), (2, 2, (.t 51))])⟩,
    ⟨(some 14), none, (.new [(.int .i64 0), (.int .i64 0), (.int .i64 0), (.int .i64 0)])⟩,
    ⟨none, none, (.st 4 (.t 14) (.t 52))⟩])
  (.seq (.ops [⟨(some 53), none, (.ld 4 true (.t 5))⟩,
    ⟨(some 54), none, (.ld 4 true (.t 12))⟩,
    ⟨(some 55), none, (.ld 4 true (.t 12))⟩,
    ⟨(some 56), none, (.bsl 4 [[(.int .i64 0), (.int .i64 0), (.int .i64 0), .nsl], [(.int .i64 0), (.int .i64 0), (.int .i64 0), .nsl], [(.int .i64 0), (.int .i64 0), (.int .i64 0), .nsl]] [(0, (.t 53)), (1, (.t 54)), (2, (.t 55))])⟩,
    ⟨(some 57), none, (.mov (.t 1))⟩,
    ⟨(some 58), none, (.mov (.t 11))⟩,
    ⟨(some 60), none, (.mov (.t 1))⟩,
    ⟨(some 62), none, (.mov (.t 2))⟩,
    ⟨(some 63), none, (.mov (.t 13))⟩,
    ⟨(some 64), none, (.mov (.t 2))⟩,
    ⟨(some 65), none, (.bsl 1 [[(.int .i64 0)], [(.int .i64 0)], [(.int .i64 0)]] [(0, (.t 62)), (1, (.t 63)), (2, (.t 64))])⟩,
    ⟨(some 66), none, (.ld 4 true (.t 8))⟩,
    ⟨(some 67), none, (.ld 4 true (.t 14))⟩,
    ⟨(some 68), none, (.ld 4 true (.t 8))⟩,
    ⟨(some 69), none, (.bsl 4 [[(.int .i64 0), (.int .i64 0), (.int .i64 0), (.int .i64 0)], [(.int .i64 0), (.int .i64 0), (.int .i64 0), (.int .i64 0)], [(.int .i64 0), (.int .i64 0), (.int .i64 0), (.int .i64 0)]] [(0, (.t 66)), (1, (.t 67)), (2, (.t 68))])⟩,
    ⟨(some 59), none, (.callF 20 [(.t 58), (.k (.int .i64 5))])⟩,
    ⟨none, none, (.chk 4 true (.t 5) 53)⟩,
    ⟨none, none, (.chk 4 true (.t 12) 54)⟩,
    ⟨none, none, (.chk 4 true (.t 12) 55)⟩,
    ⟨none, none, (.chk 4 true (.t 8) 66)⟩,
    ⟨none, none, (.chk 4 true (.t 14) 67)⟩,
    ⟨none, none, (.chk 4 true (.t 8) 68)⟩,
    ⟨(some 61), none, (.bsl 1 [[(.int .i64 0)], [(.int .i64 0)], [(.int .i64 0)]] [(0, (.t 57)), (1, (.t 59)), (2, (.t 60))])⟩,
    ⟨(some 15), none, (.mov (.t 56))⟩,
    ⟨(some 16), none, (.mov (.t 61))⟩,
    ⟨(some 17), none, (.mov (.t 65))⟩,
    ⟨(some 18), none, (.mov (.t 69))⟩])
  (.seq (.seq (.ops [⟨(some 19), none, (.mov (.k (.int .i64 0)))⟩])
  (.blk 0 (.loop (.seq (.seq (.ops [⟨(some 70), none, (.mov (.t 19))⟩,
        ⟨(some 71), none, (.mov (.t 15))⟩,
        ⟨(some 72), none, (.len false (.t 71))⟩,
        ⟨(some 73), none, (.bin .lss (.t 70) (.t 72))⟩])
      (.cnd (.t 73)
        .skip
        (.exit 0)))
      (.seq (.blk 1 (.seq (.ops [⟨(some 76), none, (.mov (.t 15))⟩,
          ⟨(some 77), none, (.mov (.t 19))⟩,
          ⟨(some 78), none, (.ixA 4 (.t 76) (.t 77))⟩,
          ⟨(some 79), none, (.ld 4 true (.t 78))⟩,
          ⟨(some 80), none, (.callF 21 [(.t 79)])⟩,
          ⟨(some 20), none, (.new [(.int .i64 0), (.int .i64 0), (.int .i64 0), .nsl])⟩,
          ⟨none, none, (.st 4 (.t 20) (.t 80))⟩])
        (.seq (.ops [⟨(some 82), none, (.ld 4 true (.t 20))⟩,
          ⟨(some 83), none, (.mov (.t 17))⟩,
          ⟨(some 84), none, (.mov (.t 19))⟩,
          ⟨(some 85), none, (.ixA 1 (.t 83) (.t 84))⟩,
          ⟨(some 86), none, (.ld 1 false (.t 85))⟩,
          ⟨(some 87), none, (.callF 36 [(.t 82), (.t 86)])⟩,
          ⟨(some 81), none, (.mov (.t 87))⟩,
          ⟨(some 88), none, (.ext 0 (.t 81))⟩,
          ⟨(some 89), none, (.ext 1 (.t 81))⟩,
          ⟨(some 21), none, (.mov (.t 88))⟩,
          ⟨(some 22), none, (.mov (.t 89))⟩])
        (.seq (.ops [⟨(some 91), none, (.mov (.t 15))⟩,
          ⟨(some 92), none, (.mov (.t 19))⟩,
          ⟨(some 93), none, (.ixA 4 (.t 91) (.t 92))⟩,
          ⟨(some 94), none, (.ld 4 true (.t 93))⟩,
          ⟨(some 95), none, (.mov (.t 17))⟩,
          ⟨(some 96), none, (.mov (.t 19))⟩,
          ⟨(some 97), none, (.ixA 1 (.t 95) (.t 96))⟩,
          ⟨(some 98), none, (.ld 1 false (.t 97))⟩,
          ⟨(some 99), none, (.callF 52 [(.t 94), (.t 98)])⟩,
          ⟨(some 90), none, (.mov (.t 99))⟩,
          ⟨(some 100), none, (.ext 0 (.t 90))⟩,
          ⟨(some 101), none, (.ext 1 (.t 90))⟩,
          ⟨(some 23), none, (.mov (.t 100))⟩,
          ⟨(some 24), none, (.mov (.t 101))⟩])
        (.seq (.ops [⟨(some 103), none, (.ld 4 true (.t 20))⟩,
          ⟨(some 104), none, (.mov (.t 16))⟩,
          ⟨(some 105), none, (.mov (.t 19))⟩,
          ⟨(some 106), none, (.ixA 1 (.t 104) (.t 105))⟩,
          ⟨(some 107), none, (.ld 1 false (.t 106))⟩,
          ⟨(some 108), none, (.mov (.t 17))⟩,
          ⟨(some 109), none, (.mov (.t 19))⟩,
          ⟨(some 110), none, (.ixA 1 (.t 108) (.t 109))⟩,
          ⟨(some 111), none, (.ld 1 false (.t 110))⟩,
          ⟨(some 112), none, (.callF 53 [(.t 103), (.t 107), (.t 111)])⟩,
          ⟨(some 102), none, (.mov (.t 112))⟩,
          ⟨(some 113), none, (.ext 0 (.t 102))⟩,
          ⟨(some 114), none, (.ext 1 (.t 102))⟩,
          ⟨(some 25), none, (.mov (.t 113))⟩,
          ⟨(some 26), none, (.mov (.t 114))⟩])
        (.seq (.ops [⟨(some 116), none, (.mov (.t 15))⟩,
          ⟨(some 117), none, (.mov (.t 19))⟩,
          ⟨(some 118), none, (.ixA 4 (.t 116) (.t 117))⟩,
          ⟨(some 119), none, (.ld 4 true (.t 118))⟩,
          ⟨(some 120), none, (.mov (.t 16))⟩,
          ⟨(some 121), none, (.mov (.t 19))⟩,
          ⟨(some 122), none, (.ixA 1 (.t 120) (.t 121))⟩,
          ⟨(some 123), none, (.ld 1 false (.t 122))⟩,
          ⟨(some 124), none, (.mov (.t 17))⟩,
          ⟨(some 125), none, (.mov (.t 19))⟩,
          ⟨(some 126), none, (.ixA 1 (.t 124) (.t 125))⟩,
          ⟨(some 127), none, (.ld 1 false (.t 126))⟩,
          ⟨(some 128), none, (.callF 54 [(.t 119), (.t 123), (.t 127)])⟩,
          ⟨(some 115), none, (.mov (.t 128))⟩,
          ⟨(some 129), none, (.ext 0 (.t 115))⟩,
          ⟨(some 130), none, (.ext 1 (.t 115))⟩,
          ⟨(some 27), none, (.mov (.t 129))⟩,
          ⟨(some 28), none, (.mov (.t 130))⟩])
        (.seq (.ops [⟨none, none, (.kil 29)⟩,
          ⟨(some 132), none, (.ld 4 true (.t 20))⟩,
          ⟨(some 133), none, (.mov (.t 18))⟩,
          ⟨(some 134), none, (.mov (.t 19))⟩,
          ⟨(some 135), none, (.ixA 4 (.t 133) (.t 134))⟩,
          ⟨(some 136), none, (.ld 4 true (.t 135))⟩,
          ⟨(some 137), none, (.callF 55 [(.t 132), (.t 136)])⟩,
          ⟨(some 131), none, (.mov (.t 137))⟩,
          ⟨(some 138), none, (.ext 0 (.t 131))⟩,
          ⟨(some 139), none, (.ext 1 (.t 131))⟩,
          ⟨(some 29), none, (.new [(.int .i64 0), (.int .i64 0), (.int .i64 0), .nsl])⟩,
          ⟨none, none, (.st 4 (.t 29) (.t 138))⟩,
          ⟨(some 30), none, (.mov (.t 139))⟩])
        (.seq (.ops [⟨none, none, (.kil 31)⟩,
          ⟨(some 141), none, (.mov (.t 15))⟩,
          ⟨(some 142), none, (.mov (.t 19))⟩,
          ⟨(some 143), none, (.ixA 4 (.t 141) (.t 142))⟩,
          ⟨(some 144), none, (.ld 4 true (.t 143))⟩,
          ⟨(some 145), none, (.mov (.t 18))⟩,
          ⟨(some 146), none, (.mov (.t 19))⟩,
          ⟨(some 147), none, (.ixA 4 (.t 145) (.t 146))⟩,
          ⟨(some 148), none, (.ld 4 true (.t 147))⟩,
          ⟨(some 149), none, (.callF 56 [(.t 144), (.t 148)])⟩,
          ⟨(some 140), none, (.mov (.t 149))⟩,
          ⟨(some 150), none, (.ext 0 (.t 140))⟩,
          ⟨(some 151), none, (.ext 1 (.t 140))⟩,
          ⟨(some 31), none, (.new [(.int .i64 0), (.int .i64 0), (.int .i64 0), .nsl])⟩,
          ⟨none, none, (.st 4 (.t 31) (.t 150))⟩,
          ⟨(some 32), none, (.mov (.t 151))⟩])
        (.seq (.ops [⟨(some 152), none, (.mov (.t 22))⟩,
          ⟨(some 153), none, (.mov (.t 24))⟩,
          ⟨(some 154), none, (.bin .neq (.t 152) (.t 153))⟩,
          ⟨(some 155), none, (.mov (.t 154))⟩,
          ⟨(some 156), (some (155, false)), (.mov (.t 25))⟩,
          ⟨(some 157), (some (155, false)), (.mov (.t 27))⟩,
          ⟨(some 158), (some (155, false)), (.bin .neq (.t 156) (.t 157))⟩,
          ⟨(some 159), none, (.pick (.t 155) (.k (.bool true)) (.t 158))⟩,
          ⟨(some 160), none, (.mov (.t 159))⟩,
          ⟨(some 161), (some (160, false)), (.mov (.t 26))⟩,
          ⟨(some 162), (some (160, false)), (.mov (.t 28))⟩,
          ⟨(some 163), (some (160, false)), (.bin .neq (.t 161) (.t 162))⟩,
          ⟨(some 164), none, (.pick (.t 160) (.k (.bool true)) (.t 163))⟩,
          ⟨(some 165), none, (.mov (.t 164))⟩,
          ⟨(some 166), (some (165, false)), (.mov (.t 30))⟩,
          ⟨(some 167), (some (165, false)), (.mov (.t 32))⟩,
          ⟨(some 168), (some (165, false)), (.bin .neq (.t 166) (.t 167))⟩,
          ⟨(some 169), none, (.pick (.t 165) (.k (.bool true)) (.t 168))⟩,
          ⟨(some 170), none, (.mov (.t 169))⟩,
          ⟨(some 171), (some (170, false)), (.mov (.t 21))⟩,
          ⟨(some 172), (some (170, false)), (.mov (.t 23))⟩,
          ⟨(some 173), (some (170, false)), (.callF 40 [(.t 171), (.t 172)])⟩,
          ⟨(some 174), (some (170, false)), (.not (.t 173))⟩,
          ⟨(some 175), none, (.pick (.t 170) (.k (.bool true)) (.t 174))⟩,
          ⟨(some 176), none, (.mov (.t 175))⟩,
          ⟨(some 177), (some (176, false)), (.ld 4 true (.t 29))⟩,
          ⟨(some 178), (some (176, false)), (.ld 4 true (.t 31))⟩,
          ⟨(some 179), (some (176, false)), (.callF 30 [(.t 177), (.t 178)])⟩,
          ⟨(some 180), (some (176, false)), (.not (.t 179))⟩,
          ⟨(some 181), none, (.pick (.t 176) (.k (.bool true)) (.t 180))⟩,
          ⟨(some 182), none, (.mov (.t 181))⟩,
          ⟨(some 183), (some (182, false)), (.ld 4 true (.t 20))⟩,
          ⟨(some 184), (some (182, false)), (.mov (.t 15))⟩,
          ⟨(some 185), (some (182, false)), (.mov (.t 19))⟩,
          ⟨(some 186), (some (182, false)), (.ixA 4 (.t 184) (.t 185))⟩,
          ⟨(some 187), (some (182, false)), (.ld 4 true (.t 186))⟩,
          ⟨(some 188), (some (182, false)), (.callF 30 [(.t 183), (.t 187)])⟩,
          ⟨(some 189), (some (182, false)), (.not (.t 188))⟩,
          ⟨(some 190), none, (.pick (.t 182) (.k (.bool true)) (.t 189))⟩])
        (.cnd (.t 190)
          (.seq (.ops [⟨(some 10), none, (.mov (.k (.bool false)))⟩])
          .ret)
          .skip))))))))))
      (.ops [⟨(some 74), none, (.mov (.t 19))⟩,
        ⟨(some 75), none, (.bin .add (.t 74) (.k (.int .i64 1)))⟩,
        ⟨(some 19), none, (.mov (.t 75))⟩]))))))
  (.seq (.ops [⟨(some 191), none, (.callF 16 [])⟩,
    ⟨(some 10), none, (.mov (.t 191))⟩])
  .ret)))))))))⟩
def hint8 (P : Program) : Hint := {}
theorem Sub.tup10 {l m : List AV} (h : SubL l m) : Sub (.tup l) (.tup m) := fun G v ⟨vs, h1, h2⟩ => ⟨vs, h1, SubL.rel h h2⟩
theorem Holders10_w (c : Chn) (day : Int) (hl : c.ls.length < 1000) : Fn0 Try.prog 36 [cA c, .int .i64 day] (fun v => v = .tup [.slc 1 (iR (holF c day)) .non, .int .i64 (askE c day)]) :=
  RawC.sub (HoldersF_s c day hl) fun a _ ⟨b, h, hN⟩ => ⟨_, by
    rw [h]
    refine Sub.tup10 (.cons ?_ (.cons (Sub.refl _) .nil))
    rcases hN with ⟨rfl, h0⟩ | ⟨rfl, _⟩
    · rw [h0]; exact Sub.nil
    · exact Sub.refl _, rfl⟩
theorem rHolders10_w (c : Chn) (day : Int) (hl : c.ls.length < 1000) : Fn0 Try.prog 52 [cA c, .int .i64 day] (fun v => v = .tup [.slc 1 (iR (holF c day)) .non, .int .i64 (askE c day)]) :=
  RawC.sub (rHolders_s c day hl) fun a _ h => ⟨_, by
    rw [h]
    refine Sub.tup10 (.cons ?_ (.cons (Sub.refl _) .nil))
    unfold holF
    by_cases he : askE c day = 0
    · rw [if_pos he, if_pos he]; exact Sub.refl _
    · rw [if_neg he, if_neg he]; exact Sub.nil, rfl⟩
theorem holF_len (c : Chn) (day : Int) : (holF c day).length ≤ 21 := by
  unfold holF
  split
  · unfold holL; exact Nat.le_trans (List.length_filter_le _ _) (by simp)
  · simp
theorem eqChainsZ : Fn0 Try.prog 30 [.agg [.int .i64 0, .int .i64 0, .int .i64 0, .nsl], .agg [.int .i64 0, .int .i64 0, .int .i64 0, .nsl]] (fun v => v = .bool true) :=
  RawC.weak (fun _ _ hr => SubL.rel (.cons (Sub.agg (.cons (Sub.refl _) (.cons (Sub.refl _) (.cons (Sub.refl _) (.cons Sub.nil .nil))))) (.cons (Sub.agg (.cons (Sub.refl _) (.cons (Sub.refl _) (.cons (Sub.refl _) (.cons Sub.nil .nil))))) .nil)) hr) (eqChains_k ⟨0, 0, 0, []⟩ (by simp))
theorem getK3 {α : Type} {a b c x : α} (h : x ∈ [a, b, c]) : x = a ∨ x = b ∨ x = c := by simpa using h
theorem holders10_c (c : Chn) (owner day : Int) (l : Lnk) (nums : List Int) (hc : c.ls.length < 2 ^ 63) (hn : nums.length < 2 ^ 62) :
    Fn0 Try.prog 8 [cA c, .int .i64 owner, .int .i64 day, .agg (Lnk.row l), .slc 1 (iR nums) .non] (fun v => v = .bool true) := by
  have hM := many_k c (by omega)
  by_cases hv : 20 < c.ls.length
  · rw [decide_eq_true hv] at hM
    refine RawC.walk (H := hint8 Try.prog) ir8 Try.func8 rfl rfl rfl ?_
    unfold ir8
    repeat' (first
      | with_reducible (first | refine Rd.p ?_ | refine w_alt ?_ ?_ | refine zE ?_ | refine zE0 ?_)
      | with_reducible (first | refine zI fun y hy => ?_ | refine zL ?_ | refine zS ?_ | refine zA fun _ => ?_ | refine zV ?_ | refine zC ?_ | refine zG ?_ | refine zU ?_ | refine zG0 ?_ | refine zU0 ?_ | refine zF ?_)
      | ((with_reducible refine acall_id ?_); refine ACall.val hM rfl rfl ?_)
      | ((with_reducible refine acall_id ?_); refine ACall.val wake_s rfl rfl ?_)
      | with_reducible (first | refine zX ?_ | refine zD fun _ => ?_ | refine zD0 ?_ | refine zN ?_ | refine zF0 ?_ | refine zX0 ?_ | refine z1 ?_ | refine z2 ?_ | refine z3 ?_ | refine z4 ?_ | refine z5 ?_ | refine z6 ?_ | refine z7 ?_ | refine z8 ?_ | refine y1 ?_ | refine y2 ?_ | refine y3 ?_ | refine y4 ?_ | refine y5 ?_ | refine y6 ?_ | refine y7 ?_ | refine y8 ?_ | refine Rt.p (fun _ => ?_) fun _ => ?_)
      | ((with_reducible apply w_ixM); (focus exact rfl); (focus exact rfl); case' hk => intro y hy) | ((with_reducible (first | apply w_val | apply q_ends)); (focus exact rfl)))
    rfl
  rw [decide_eq_false hv] at hM
  refine RawC.walk (H := hint8 Try.prog) ir8 Try.func8 rfl rfl rfl ?_
  unfold ir8
  repeat' (first
    | with_reducible (first | refine Rd.p ?_ | refine w_alt ?_ ?_ | refine zE ?_ | refine zE0 ?_)
    | with_reducible (first | refine zI fun y hy => ?_ | refine zL ?_ | refine zS ?_ | refine zA fun _ => ?_ | refine zV ?_ | refine zC ?_ | refine zG ?_ | refine zU ?_ | refine zG0 ?_ | refine zU0 ?_ | refine zF ?_)
    | ((with_reducible refine acall_id ?_); refine ACall.val hM rfl rfl ?_)
    | ((with_reducible refine acall_id ?_); refine ACall.liftS (boxOf_s nums hn) [] (some 6) rfl rfl rfl trivial (fun _ => rfl) ?_; rintro ⟨gb, w⟩ _ rfl)
    | ((with_reducible refine acall_id ?_); refine ACall.box (chainOf_c _ _ 6 6 4 (by omega) (by omega) (by omega)) rfl rfl rfl ?_; rintro _ _ ⟨own, rfl, hE2, hk2⟩)
    | ((with_reducible refine acall_id ?_); refine ACall.box (upp_c _ _ 50 (by omega) (by omega)) rfl rfl rfl ?_; rintro _ _ ⟨at', rfl, ha1, ha2⟩)
    | ((with_reducible refine acall_id ?_); refine ACall.box (upp_c _ _ 5 (by omega) (by omega)) rfl rfl rfl ?_; rintro _ _ ⟨z5, rfl, hz1, hz2⟩)
    | ((with_reducible refine acall_id ?_); refine ACall.box (upp_c _ _ 20 (by omega) (by omega)) rfl rfl rfl ?_; rintro _ _ ⟨z20, rfl, hz3, hz4⟩)
    | with_reducible (first | refine zX ?_ | refine zD fun _ => ?_ | refine zD0 ?_ | refine zN ?_ | refine zF0 ?_ | refine zX0 ?_ | refine z1 ?_ | refine z2 ?_ | refine z3 ?_ | refine z4 ?_ | refine z5 ?_ | refine z6 ?_ | refine z7 ?_ | refine z8 ?_ | refine y1 ?_ | refine y2 ?_ | refine y3 ?_ | refine y4 ?_ | refine y5 ?_ | refine y6 ?_ | refine y7 ?_ | refine y8 ?_ | refine Rt.p (fun _ => ?_) fun _ => ?_)
    | ((with_reducible apply w_ixM); (focus exact rfl); (focus exact rfl); case' hk => intro y hy) | ((with_reducible (first | apply w_val | apply q_ends)); (focus exact rfl)))
  rename_i zf _ _ _ zt _ _ _ _ _
  have hS3 : ∀ x ∈ [c, own, own], x.ls.length ≤ 20 := fun x hx => by rcases getK3 hx with rfl | rfl | rfl <;> omega
  obtain ⟨SS, hSS⟩ : ∃ SS, SS = [c, own, own] := ⟨_, rfl⟩
  obtain ⟨OS, hOS⟩ : ∃ OS, OS = [owner, z5, owner] := ⟨_, rfl⟩
  obtain ⟨DS, hDS⟩ : ∃ DS, DS = [day, at', day] := ⟨_, rfl⟩
  obtain ⟨LS, hLS⟩ : ∃ LS : List Lnk, LS = [l, ⟨zf, zt, at', at' + z20⟩, l] := ⟨_, rfl⟩
  rw [← hSS] at hS3
  have l1 : SS.length = 3 := by rw [hSS]; rfl
  have l2 : OS.length = 3 := by rw [hOS]; rfl
  have l3 : DS.length = 3 := by rw [hDS]; rfl
  have l4 : LS.length = 3 := by rw [hLS]; rfl
  refine w_loopK [] [] (fun i : Nat => i ≤ 3) (fun i => 3 - i) (fun i => [(19, .int .i64 i), (15, .slc 4 (SS.map cC) .full), (16, .slc 1 (iR OS) .full), (17, .slc 1 (iR DS) .full), (18, .slc 4 (LS.map Lnk.row) .full)]) (fun _ => []) 0 (by show (0 : Nat) ≤ 3; omega) ⟨rfl, by rw [hSS]; rfl, by rw [hOS]; rfl, by rw [hDS]; rfl, by rw [hLS]; rfl, trivial⟩ trivial ?_
  rintro i hi e σ
  try dsimp only at hi ⊢
  by_cases hi3 : i < 3
  case neg =>
    obtain rfl : i = 3 := by omega
    repeat' (first
      | with_reducible (first | refine Rd.p ?_ | refine w_alt ?_ ?_ | refine zE ?_ | refine zE0 ?_)
      | with_reducible (first | refine zI fun y hy => ?_ | refine zL ?_ | refine zS ?_ | refine zA fun _ => ?_ | refine zV ?_ | refine zC ?_ | refine zG ?_ | refine zU ?_ | refine zG0 ?_ | refine zU0 ?_ | refine zF ?_)
      | ((with_reducible refine acall_id ?_); refine ACall.val wake_s rfl rfl ?_)
      | with_reducible (first | refine zX ?_ | refine zD fun _ => ?_ | refine zD0 ?_ | refine zN ?_ | refine zF0 ?_ | refine zX0 ?_ | refine z1 ?_ | refine z2 ?_ | refine z3 ?_ | refine z4 ?_ | refine z5 ?_ | refine z6 ?_ | refine z7 ?_ | refine z8 ?_ | refine y1 ?_ | refine y2 ?_ | refine y3 ?_ | refine y4 ?_ | refine y5 ?_ | refine y6 ?_ | refine y7 ?_ | refine y8 ?_ | refine Rt.p (fun _ => ?_) fun _ => ?_)
      | ((with_reducible apply w_ixM); (focus exact rfl); (focus exact rfl); case' hk => intro y hy) | ((with_reducible (first | apply w_val | apply q_ends)); (focus exact rfl)))
    all_goals rfl
  obtain ⟨x, hx⟩ : ∃ x, SS[i]? = some x := ⟨_, List.getElem?_eq_getElem (by omega)⟩
  obtain ⟨o, ho⟩ : ∃ o, OS[i]? = some o := ⟨_, List.getElem?_eq_getElem (by omega)⟩
  obtain ⟨d, hd⟩ : ∃ d, DS[i]? = some d := ⟨_, List.getElem?_eq_getElem (by omega)⟩
  obtain ⟨y, hy⟩ : ∃ y, LS[i]? = some y := ⟨_, List.getElem?_eq_getElem (by omega)⟩
  have smx := hS3 x (List.mem_of_getElem? hx)
  clear hSS hOS hDS hLS hS3
  have hOC := ownChainP_c x (by omega)
  have hH := Holders10_w x d (by omega)
  have hRH := rHolders10_w x d (by omega)
  have hO := Owned_s x o d (by omega)
  have hRO := rOwned_s x o d (by omega)
  have hA := Add_s x y (by omega)
  have hRA := rAdd_s x y (by omega)
  have hlen := holF_len x d
  have hQ := eq_c (holF x d) (holF x d) (by omega)
  rw [decide_eq_true rfl] at hQ
  have hQC := eqChains_k x (by omega)
  generalize holF x d = HL at *
  generalize askE x d = ae at *
  generalize (ownV x o d).1 = ow1 at *
  generalize (ownV x o d).2 = ow2 at *
  by_cases ha : addE x y = 0
  · unfold addV at hA hRA
    have hQA := eqChains_k (addC x y) (by rw [addC_len]; omega)
    rw [if_pos ha, ha] at hA hRA
    generalize addC x y = xy at *
    repeat' (first
      | with_reducible (first | refine Rd.p ?_ | refine w_alt ?_ ?_ | refine zE ?_ | refine zE0 ?_)
      | (refine w_ixE (f := cC) hx rfl rfl ?_)
      | (refine w_ixE hd rfl rfl ?_)
      | (refine w_ixE ho rfl rfl ?_)
      | (refine w_ixE (f := Lnk.row) hy rfl rfl ?_)
      | with_reducible (first | refine zI fun y hy => ?_ | refine zL ?_ | refine zS ?_ | refine zA fun _ => ?_ | refine zV ?_ | refine zC ?_ | refine zG ?_ | refine zU ?_ | refine zG0 ?_ | refine zU0 ?_ | refine zF ?_)
      | ((with_reducible refine acall_id ?_); refine ACall.val hOC rfl rfl ?_)
      | ((with_reducible refine acall_id ?_); refine ACall.val hH rfl rfl ?_)
      | ((with_reducible refine acall_id ?_); refine ACall.val hRH rfl rfl ?_)
      | ((with_reducible refine acall_id ?_); refine ACall.val hO rfl rfl ?_)
      | ((with_reducible refine acall_id ?_); refine ACall.val hRO rfl rfl ?_)
      | ((with_reducible refine acall_id ?_); refine ACall.val hA rfl rfl ?_)
      | ((with_reducible refine acall_id ?_); refine ACall.val hRA rfl rfl ?_)
      | ((with_reducible refine acall_id ?_); refine ACall.val hQ rfl rfl ?_)
      | ((with_reducible refine acall_id ?_); refine ACall.val hQA rfl rfl ?_)
      | ((with_reducible refine acall_id ?_); refine ACall.val hQC rfl rfl ?_)
      | with_reducible (first | refine zX ?_ | refine zD fun _ => ?_ | refine zD0 ?_ | refine zN ?_ | refine zF0 ?_ | refine zX0 ?_ | refine z1 ?_ | refine z2 ?_ | refine z3 ?_ | refine z4 ?_ | refine z5 ?_ | refine z6 ?_ | refine z7 ?_ | refine z8 ?_ | refine y1 ?_ | refine y2 ?_ | refine y3 ?_ | refine y4 ?_ | refine y5 ?_ | refine y6 ?_ | refine y7 ?_ | refine y8 ?_ | refine Rt.p (fun _ => ?_) fun _ => ?_)
      | ((with_reducible apply w_ixM); (focus exact rfl); (focus exact rfl); case' hk => intro y hy) | ((with_reducible (first | apply w_val | apply q_ends)); (focus exact rfl)))
    all_goals first
      | (exfalso; omega)
      | exact q_loop (i + 1) (by show i + 1 ≤ 3; omega) (by show 3 - (i + 1) < 3 - i; omega) (slots_cons (by show AV.int .i64 _ = AV.int .i64 _; refine int_eq ?_; simp) (slots_cons rfl (slots_cons rfl (slots_cons rfl (slots_cons rfl slots_nil))))) trivial (by repeat' (first | exact kept_nil | apply kept_cons | rfl)) (by repeat' (first | exact kept_nil | apply kept_cons | rfl))
      | (exfalso; simp_all; done)
  · unfold addV at hA hRA
    have hQA := eqChainsZ
    rw [if_neg ha] at hA hRA
    generalize addE x y = ade at *
    repeat' (first
      | with_reducible (first | refine Rd.p ?_ | refine w_alt ?_ ?_ | refine zE ?_ | refine zE0 ?_)
      | (refine w_ixE (f := cC) hx rfl rfl ?_)
      | (refine w_ixE hd rfl rfl ?_)
      | (refine w_ixE ho rfl rfl ?_)
      | (refine w_ixE (f := Lnk.row) hy rfl rfl ?_)
      | with_reducible (first | refine zI fun y hy => ?_ | refine zL ?_ | refine zS ?_ | refine zA fun _ => ?_ | refine zV ?_ | refine zC ?_ | refine zG ?_ | refine zU ?_ | refine zG0 ?_ | refine zU0 ?_ | refine zF ?_)
      | ((with_reducible refine acall_id ?_); refine ACall.val hOC rfl rfl ?_)
      | ((with_reducible refine acall_id ?_); refine ACall.val hH rfl rfl ?_)
      | ((with_reducible refine acall_id ?_); refine ACall.val hRH rfl rfl ?_)
      | ((with_reducible refine acall_id ?_); refine ACall.val hO rfl rfl ?_)
      | ((with_reducible refine acall_id ?_); refine ACall.val hRO rfl rfl ?_)
      | ((with_reducible refine acall_id ?_); refine ACall.val hA rfl rfl ?_)
      | ((with_reducible refine acall_id ?_); refine ACall.val hRA rfl rfl ?_)
      | ((with_reducible refine acall_id ?_); refine ACall.val hQ rfl rfl ?_)
      | ((with_reducible refine acall_id ?_); refine ACall.val hQA rfl rfl ?_)
      | ((with_reducible refine acall_id ?_); refine ACall.val hQC rfl rfl ?_)
      | with_reducible (first | refine zX ?_ | refine zD fun _ => ?_ | refine zD0 ?_ | refine zN ?_ | refine zF0 ?_ | refine zX0 ?_ | refine z1 ?_ | refine z2 ?_ | refine z3 ?_ | refine z4 ?_ | refine z5 ?_ | refine z6 ?_ | refine z7 ?_ | refine z8 ?_ | refine y1 ?_ | refine y2 ?_ | refine y3 ?_ | refine y4 ?_ | refine y5 ?_ | refine y6 ?_ | refine y7 ?_ | refine y8 ?_ | refine Rt.p (fun _ => ?_) fun _ => ?_)
      | ((with_reducible apply w_ixM); (focus exact rfl); (focus exact rfl); case' hk => intro y hy) | ((with_reducible (first | apply w_val | apply q_ends)); (focus exact rfl)))
    all_goals first
      | (exfalso; omega)
      | exact q_loop (i + 1) (by show i + 1 ≤ 3; omega) (by show 3 - (i + 1) < 3 - i; omega) (slots_cons (by show AV.int .i64 _ = AV.int .i64 _; refine int_eq ?_; simp) (slots_cons rfl (slots_cons rfl (slots_cons rfl (slots_cons rfl slots_nil))))) trivial (by repeat' (first | exact kept_nil | apply kept_cons | rfl)) (by repeat' (first | exact kept_nil | apply kept_cons | rfl))
      | (exfalso; simp_all; done)
end Go.Abs
