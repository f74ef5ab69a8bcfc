/- A part of the proofs of the laws of this seat: contracts of the functions that they reach, each proved of the program's form in Lean. No condition beyond those that each contract names. -/
import Derived.Test.YtmekfgjlcaonjaaK4
import Derived.Test.YtmekfgjlcaonjaaK3
import Derived.Test.YtmekfgjlcaonjaaK2
import Derived.Test.YtmekfgjlcaonjaaK1
import Derived.Test.YtmekfgjlcaonjaaD7
import Derived.Test.YtmekfgjlcaonjaaD5
import Derived.Test.YtmekfgjlcaonjaaD4
import Derived.Test.YtmekfgjlcaonjaaD3
import Derived.Test.YtmekfgjlcaonjaaD2
import Derived.Test.YtmekfgjlcaonjaaD1
import Derived.Test.YtmekfgjlcaonjaaC13
import Derived.Test.YtmekfgjlcaonjaaC12
import Derived.Test.YtmekfgjlcaonjaaC11
import Derived.Test.YtmekfgjlcaonjaaC10
import Derived.Test.YtmekfgjlcaonjaaC9
import Derived.Test.YtmekfgjlcaonjaaC8
import Derived.Test.YtmekfgjlcaonjaaC7
import Derived.Test.YtmekfgjlcaonjaaC5
import Derived.Test.YtmekfgjlcaonjaaC4
import Derived.Test.YtmekfgjlcaonjaaC2
import Derived.Test.YtmekfgjlcaonjaaC1
import Derived.Test.YtmekfgjlcaonjaaB
import Derived.Test.YtmekfgjlcaonjaaC6
import Derived.Test.YtmekfgjlcaonjaaC3
import Derived.Test.YtmekfgjlcaonjaaD8
set_option linter.unusedVariables false
set_option linter.unusedSimpArgs false
set_option maxRecDepth 20000
set_option maxHeartbeats 4000000
namespace Go.Abs
open Go.Proofs
/-- aloeswood/aloeswoodref09.holders -/
def ir103 : IFn :=
  ⟨84, [(4, none)], (.seq (.ops [⟨(some 2), none, (.box 4 (.t 0))⟩,
    ⟨(some 4), none, (.mov (.k .nsl))⟩])
  (.seq (.ops [⟨(some 11), none, (.mks 1 1 [(.bool false)] (.k (.int .i64 21)) (.k (.int .i64 21)))⟩,
    ⟨(some 5), none, (.mov (.t 11))⟩])
  (.seq (.ops [⟨(some 12), none, (.ld 4 true (.t 2))⟩,
    ⟨(some 13), none, (.callF 78 [(.t 12)])⟩,
    ⟨(some 6), none, (.mov (.t 13))⟩])
  (.seq (.seq (.ops [⟨(some 7), none, (.mov (.k (.int .i64 0)))⟩])
  (.blk 0 (.loop (.seq (.seq (.ops [⟨(some 14), none, (.mov (.t 7))⟩,
        ⟨(some 15), none, (.mov (.t 6))⟩,
        ⟨(some 16), none, (.len false (.t 15))⟩,
        ⟨(some 17), none, (.bin .lss (.t 14) (.t 16))⟩])
      (.cnd (.t 17)
        .skip
        (.exit 0)))
      (.seq (.blk 1 (.seq (.ops [⟨(some 20), none, (.mov (.t 6))⟩,
          ⟨(some 21), none, (.mov (.t 7))⟩,
          ⟨(some 22), none, (.ixA 3 (.t 20) (.t 21))⟩,
          ⟨(some 23), none, (.ld 3 true (.t 22))⟩,
          ⟨(some 8), none, (.new [.nsl, .nsl, .nsl])⟩,
          ⟨none, none, (.st 3 (.t 8) (.t 23))⟩])
        (.seq (.seq (.ops [⟨(some 24), none, (.mov (.t 1))⟩,
          ⟨(some 25), none, (.flA 2 (.t 8))⟩,
          ⟨(some 26), none, (.ld 1 false (.t 25))⟩,
          ⟨(some 27), none, (.ixA 1 (.t 26) (.k (.int .i64 0)))⟩,
          ⟨(some 28), none, (.ld 1 false (.t 27))⟩,
          ⟨(some 29), none, (.bin .lss (.t 24) (.t 28))⟩])
        (.cnd (.t 29)
          (.ops [⟨(some 30), none, (.mov (.t 5))⟩,
            ⟨(some 31), none, (.ixA 1 (.t 30) (.k (.int .i64 0)))⟩,
            ⟨none, none, (.st 1 (.t 31) (.k (.bool true)))⟩])
          .skip))
        (.seq (.ops [⟨(some 32), none, (.flA 0 (.t 2))⟩,
          ⟨(some 33), none, (.ld 1 false (.t 32))⟩,
          ⟨(some 9), none, (.mov (.t 33))⟩])
        (.seq (.ops [⟨(some 10), none, (.mov (.k (.int .i64 0)))⟩])
        (.blk 2 (.loop (.seq (.seq (.ops [⟨(some 34), none, (.mov (.t 10))⟩,
              ⟨(some 35), none, (.flA 1 (.t 8))⟩,
              ⟨(some 36), none, (.ld 1 false (.t 35))⟩,
              ⟨(some 37), none, (.len false (.t 36))⟩,
              ⟨(some 38), none, (.bin .lss (.t 34) (.t 37))⟩])
            (.cnd (.t 38)
              .skip
              (.exit 2)))
            (.seq (.blk 3 (.seq (.seq (.ops [⟨(some 41), none, (.mov (.t 10))⟩,
                ⟨(some 42), none, (.bin .gtr (.t 41) (.k (.int .i64 0)))⟩])
              (.cnd (.t 42)
                (.ops [⟨(some 43), none, (.flA 3 (.t 2))⟩,
                  ⟨(some 44), none, (.ld 1 false (.t 43))⟩,
                  ⟨(some 45), none, (.flA 0 (.t 8))⟩,
                  ⟨(some 46), none, (.ld 1 false (.t 45))⟩,
                  ⟨(some 47), none, (.mov (.t 10))⟩,
                  ⟨(some 48), none, (.bin .sub (.t 47) (.k (.int .i64 1)))⟩,
                  ⟨(some 49), none, (.ixA 1 (.t 46) (.t 48))⟩,
                  ⟨(some 50), none, (.ld 1 false (.t 49))⟩,
                  ⟨(some 51), none, (.ixA 4 (.t 44) (.t 50))⟩,
                  ⟨(some 52), none, (.flA 1 (.t 51))⟩,
                  ⟨(some 53), none, (.ld 1 false (.t 52))⟩,
                  ⟨(some 9), none, (.mov (.t 53))⟩])
                .skip))
              (.seq (.ops [⟨(some 54), none, (.flA 1 (.t 8))⟩,
                ⟨(some 55), none, (.ld 1 false (.t 54))⟩,
                ⟨(some 56), none, (.mov (.t 10))⟩,
                ⟨(some 57), none, (.ixA 1 (.t 55) (.t 56))⟩,
                ⟨(some 58), none, (.ld 1 false (.t 57))⟩,
                ⟨(some 59), none, (.mov (.t 1))⟩,
                ⟨(some 60), none, (.bin .leq (.t 58) (.t 59))⟩,
                ⟨(some 61), none, (.mov (.t 60))⟩,
                ⟨(some 62), (some (61, true)), (.mov (.t 10))⟩,
                ⟨(some 63), (some (61, true)), (.flA 2 (.t 8))⟩,
                ⟨(some 64), (some (61, true)), (.ld 1 false (.t 63))⟩,
                ⟨(some 65), (some (61, true)), (.len false (.t 64))⟩,
                ⟨(some 66), (some (61, true)), (.bin .sub (.t 65) (.k (.int .i64 1)))⟩,
                ⟨(some 67), (some (61, true)), (.bin .eql (.t 62) (.t 66))⟩,
                ⟨(some 68), (some (61, true)), (.mov (.t 67))⟩,
                ⟨(some 69), (some (68, false)), (.mov (.t 1))⟩,
                ⟨(some 70), (some (68, false)), (.flA 2 (.t 8))⟩,
                ⟨(some 71), (some (68, false)), (.ld 1 false (.t 70))⟩,
                ⟨(some 72), (some (68, false)), (.mov (.t 10))⟩,
                ⟨(some 73), (some (68, false)), (.bin .add (.t 72) (.k (.int .i64 1)))⟩,
                ⟨(some 74), (some (68, false)), (.ixA 1 (.t 71) (.t 73))⟩,
                ⟨(some 75), (some (68, false)), (.ld 1 false (.t 74))⟩,
                ⟨(some 76), (some (68, false)), (.bin .lss (.t 69) (.t 75))⟩,
                ⟨(some 77), (some (61, true)), (.pick (.t 68) (.k (.bool true)) (.t 76))⟩,
                ⟨(some 78), none, (.pick (.t 61) (.t 77) (.k (.bool false)))⟩])
              (.cnd (.t 78)
                (.ops [⟨(some 79), none, (.mov (.t 5))⟩,
                  ⟨(some 80), none, (.mov (.t 9))⟩,
                  ⟨(some 81), none, (.bin .add (.t 80) (.k (.int .i64 1)))⟩,
                  ⟨(some 82), none, (.ixA 1 (.t 79) (.t 81))⟩,
                  ⟨none, none, (.st 1 (.t 82) (.k (.bool true)))⟩])
                .skip))))
            (.ops [⟨(some 39), none, (.mov (.t 10))⟩,
              ⟨(some 40), none, (.bin .add (.t 39) (.k (.int .i64 1)))⟩,
              ⟨(some 10), none, (.mov (.t 40))⟩]))))))))))
      (.ops [⟨(some 18), none, (.mov (.t 7))⟩,
        ⟨(some 19), none, (.bin .add (.t 18) (.k (.int .i64 1)))⟩,
        ⟨(some 7), none, (.mov (.t 19))⟩]))))))
  (.seq (.seq (.frz (.t 5))
  (.ops [⟨(some 83), none, (.mov (.t 5))⟩,
    ⟨(some 4), none, (.mov (.t 83))⟩]))
  .ret)))))⟩
def hint103 (P : Program) : Hint := { site := [], nils := [], frz := [(83, 5)], mve := [], wr := [] }
/-- aloeswood/aloeswoodref09.Holders -/
def ir52 : IFn :=
  ⟨37, [(4, none), (5, none)], (.seq (.ops [⟨(some 2), none, (.box 4 (.t 0))⟩,
    ⟨(some 4), none, (.mov (.k .nsl))⟩,
    ⟨(some 5), none, (.mov (.k (.int .i64 0)))⟩])
  (.seq (.seq (.ops [⟨(some 10), none, (.ld 4 true (.t 2))⟩,
    ⟨(some 11), none, (.callF 27 [(.t 10)])⟩,
    ⟨(some 6), none, (.mov (.t 11))⟩])
  (.seq (.ops [⟨(some 12), none, (.mov (.t 6))⟩,
    ⟨(some 13), none, (.bin .neq (.t 12) (.k (.int .i64 0)))⟩])
  (.cnd (.t 13)
    (.seq (.ops [⟨(some 14), none, (.mov (.t 6))⟩,
      ⟨(some 4), none, (.mov (.k .nsl))⟩,
      ⟨(some 5), none, (.mov (.t 14))⟩])
    .ret)
    .skip)))
  (.seq (.seq (.ops [⟨(some 15), none, (.mov (.t 1))⟩,
    ⟨(some 16), none, (.callF 83 [(.t 15), (.k (.int .i64 0)), (.k (.int .i64 100000))])⟩,
    ⟨(some 17), none, (.not (.t 16))⟩])
  (.cnd (.t 17)
    (.seq (.ops [⟨(some 4), none, (.mov (.k .nsl))⟩,
      ⟨(some 5), none, (.mov (.k (.int .i64 2)))⟩])
    .ret)
    .skip))
  (.seq (.ops [⟨(some 7), none, (.nil 1 7)⟩])
  (.seq (.ops [⟨(some 18), none, (.ld 4 true (.t 2))⟩,
    ⟨(some 19), none, (.mov (.t 1))⟩,
    ⟨(some 20), none, (.callF 103 [(.t 18), (.t 19)])⟩,
    ⟨(some 8), none, (.mov (.t 20))⟩])
  (.seq (.seq (.ops [⟨(some 9), none, (.mov (.k (.int .i64 0)))⟩])
  (.blk 0 (.loop (.seq (.seq (.ops [⟨(some 21), none, (.mov (.t 9))⟩,
        ⟨(some 22), none, (.mov (.t 8))⟩,
        ⟨(some 23), none, (.len false (.t 22))⟩,
        ⟨(some 24), none, (.bin .lss (.t 21) (.t 23))⟩])
      (.cnd (.t 24)
        .skip
        (.exit 0)))
      (.seq (.blk 1 (.seq (.ops [⟨(some 27), none, (.mov (.t 8))⟩,
          ⟨(some 28), none, (.mov (.t 9))⟩,
          ⟨(some 29), none, (.ixA 1 (.t 27) (.t 28))⟩,
          ⟨(some 30), none, (.ld 1 false (.t 29))⟩])
        (.cnd (.t 30)
          (.ops [⟨(some 31), none, (.mov (.t 7))⟩,
            ⟨(some 32), none, (.mov (.t 9))⟩,
            ⟨(some 33), none, (.bin .sub (.t 32) (.k (.int .i64 1)))⟩,
            ⟨(some 34), none, (.bsl 1 [[(.int .i64 0)]] [(0, (.t 33))])⟩,
            ⟨(some 35), none, (.app 1 8 (.t 31) (.t 34) 7)⟩,
            ⟨(some 7), none, (.mov (.t 35))⟩])
          .skip)))
      (.ops [⟨(some 25), none, (.mov (.t 9))⟩,
        ⟨(some 26), none, (.bin .add (.t 25) (.k (.int .i64 1)))⟩,
        ⟨(some 9), none, (.mov (.t 26))⟩]))))))
  (.seq (.ops [⟨(some 36), none, (.mov (.t 7))⟩,
    ⟨(some 4), none, (.mov (.t 36))⟩,
    ⟨(some 5), none, (.mov (.k (.int .i64 0)))⟩])
  .ret)))))))⟩
def hint52 (P : Program) : Hint := { site := [(35, 7)], nils := [(7, 1)], frz := [], mve := [], wr := [] }
/-- aloeswood/aloeswoodref09.Owned -/
def ir54 : IFn :=
  ⟨46, [(6, none), (7, none)], (.seq (.ops [⟨(some 3), none, (.box 4 (.t 0))⟩,
    ⟨(some 6), none, (.mov (.k (.int .i64 0)))⟩,
    ⟨(some 7), none, (.mov (.k (.int .i64 0)))⟩])
  (.seq (.ops [⟨(some 12), none, (.ld 4 true (.t 3))⟩,
    ⟨(some 13), none, (.mov (.t 2))⟩,
    ⟨(some 14), none, (.callF 52 [(.t 12), (.t 13)])⟩,
    ⟨(some 11), none, (.mov (.t 14))⟩,
    ⟨(some 15), none, (.ext 0 (.t 11))⟩,
    ⟨(some 16), none, (.ext 1 (.t 11))⟩,
    ⟨(some 8), none, (.mov (.t 15))⟩,
    ⟨(some 9), none, (.mov (.t 16))⟩])
  (.seq (.seq (.ops [⟨(some 17), none, (.mov (.t 9))⟩,
    ⟨(some 18), none, (.bin .neq (.t 17) (.k (.int .i64 0)))⟩])
  (.cnd (.t 18)
    (.seq (.ops [⟨(some 19), none, (.mov (.t 9))⟩,
      ⟨(some 6), none, (.mov (.k (.int .i64 0)))⟩,
      ⟨(some 7), none, (.mov (.t 19))⟩])
    .ret)
    .skip))
  (.seq (.seq (.ops [⟨(some 20), none, (.mov (.t 1))⟩,
    ⟨(some 21), none, (.callF 83 [(.t 20), (.k (.int .i64 0)), (.k (.int .i64 19))])⟩,
    ⟨(some 22), none, (.not (.t 21))⟩])
  (.cnd (.t 22)
    (.seq (.ops [⟨(some 6), none, (.mov (.k (.int .i64 0)))⟩,
      ⟨(some 7), none, (.mov (.k (.int .i64 2)))⟩])
    .ret)
    .skip))
  (.seq (.seq (.ops [⟨(some 10), none, (.mov (.k (.int .i64 0)))⟩])
  (.blk 0 (.loop (.seq (.seq (.ops [⟨(some 23), none, (.mov (.t 10))⟩,
        ⟨(some 24), none, (.mov (.t 8))⟩,
        ⟨(some 25), none, (.len false (.t 24))⟩,
        ⟨(some 26), none, (.bin .lss (.t 23) (.t 25))⟩])
      (.cnd (.t 26)
        .skip
        (.exit 0)))
      (.seq (.blk 1 (.seq (.seq (.ops [⟨(some 29), none, (.mov (.t 8))⟩,
          ⟨(some 30), none, (.mov (.t 10))⟩,
          ⟨(some 31), none, (.ixA 1 (.t 29) (.t 30))⟩,
          ⟨(some 32), none, (.ld 1 false (.t 31))⟩,
          ⟨(some 33), none, (.mov (.t 1))⟩,
          ⟨(some 34), none, (.bin .eql (.t 32) (.t 33))⟩,
          ⟨(some 35), none, (.mov (.t 34))⟩,
          ⟨(some 36), (some (35, true)), (.mov (.t 8))⟩,
          ⟨(some 37), (some (35, true)), (.len false (.t 36))⟩,
          ⟨(some 38), (some (35, true)), (.bin .eql (.t 37) (.k (.int .i64 1)))⟩,
          ⟨(some 39), none, (.pick (.t 35) (.t 38) (.k (.bool false)))⟩])
        (.cnd (.t 39)
          (.seq (.ops [⟨(some 6), none, (.mov (.k (.int .i64 1)))⟩,
            ⟨(some 7), none, (.mov (.k (.int .i64 0)))⟩])
          .ret)
          .skip))
        (.seq (.ops [⟨(some 40), none, (.mov (.t 8))⟩,
          ⟨(some 41), none, (.mov (.t 10))⟩,
          ⟨(some 42), none, (.ixA 1 (.t 40) (.t 41))⟩,
          ⟨(some 43), none, (.ld 1 false (.t 42))⟩,
          ⟨(some 44), none, (.mov (.t 1))⟩,
          ⟨(some 45), none, (.bin .eql (.t 43) (.t 44))⟩])
        (.cnd (.t 45)
          (.seq (.ops [⟨(some 6), none, (.mov (.k (.int .i64 3)))⟩,
            ⟨(some 7), none, (.mov (.k (.int .i64 0)))⟩])
          .ret)
          .skip))))
      (.ops [⟨(some 27), none, (.mov (.t 10))⟩,
        ⟨(some 28), none, (.bin .add (.t 27) (.k (.int .i64 1)))⟩,
        ⟨(some 10), none, (.mov (.t 28))⟩]))))))
  (.seq (.ops [⟨(some 6), none, (.mov (.k (.int .i64 2)))⟩,
    ⟨(some 7), none, (.mov (.k (.int .i64 0)))⟩])
  .ret))))))⟩
def hint54 (P : Program) : Hint := {}
section
variable {P : Program} {K : (Nat → AV) → Sig → Prop} {e : Nat → AV} {σ : Sig}
theorem repBF : ∀ n : Nat, (List.replicate n [AV.bool false]).flatten = (List.replicate n false).map AV.bool
  | 0 => rfl
  | n + 1 => by rw [List.replicate_succ, List.flatten_cons, List.replicate_succ, List.map_cons, repBF n]; rfl
theorem w_mksB {d n : Nat} {l : IOpd} {r : List IStep} (hl : l.ev e = .int .i64 n) (hn : n ≤ 1000000)
    (hk : ∀ g, stepsW P r K (upd e d (.msl d g n 1)) (newS σ d g ((List.replicate n false).map AV.bool))) : stepsW P (⟨some d, none, .mks 1 1 [.bool false] l l⟩ :: r) K e σ := by
  have e1 := repBF n
  refine w_det (p := 0 ≤ (n : Int) ∧ (n : Int) = n ∧ (n : Int) * 1 ≤ 140737488355328 ∧ (n : Int) ≤ 9223372036854775807) (v := fun g => .msl d g n 1) (σ' := fun g => newS σ d g (List.replicate n [AV.bool false]).flatten) (fun g => ?_) ⟨by omega, rfl, by omega, by omega⟩ (fun g => by rw [e1]; exact hk g)
  show (match l.ev e, l.ev e with
    | .int _ n, .int _ c => some (0 ≤ n ∧ c = n ∧ n * (1 : Nat) ≤ 140737488355328 ∧ n ≤ 9223372036854775807, AV.msl d g n.toNat 1, newS σ d g (List.replicate n.toNat [AV.bool false]).flatten)
    | _, _ => none) = _
  rw [hl]; rfl
theorem w_stB {x v : IOpd} {r : List IStep} {i g off : Nat} {a : Bool} {xs : List Bool} (hx : x.ev e = .ref i g off) (hv : v.ev e = .bool a) (hσ : σ i = (g, .row (xs.map AV.bool))) (ho : off < xs.length)
    (hk : stepsW P r K e (upd σ i (g, .row ((xs.set off a).map AV.bool)))) : stepsW P (⟨none, none, .st 1 x v⟩ :: r) K e σ := by
  refine w_det0 (p := g = g ∧ 1 = 1 ∧ off + 1 ≤ (xs.map AV.bool).length) (v := .junk) (σ' := upd σ i (g, .row (setL (xs.map AV.bool) off [.bool a]))) (fun _ => ?_) ⟨rfl, rfl, by simp; omega⟩ ?_
  · show stO 1 σ (v.ev e) (x.ev e) = _
    rw [hx, hv]
    simp only [stO, cellsO, hσ]
  · rw [setL_one, ← List.map_set]; exact hk
abbrev blR (xs : List Bool) : List (List AV) := xs.map fun b => [.bool b]
theorem chunkB : ∀ xs : List Bool, chunk 1 xs.length (normL (xs.map AV.bool)) = blR xs
  | [] => rfl
  | b :: xs => by
    show [AV.bool b] :: chunk 1 xs.length (normL (xs.map AV.bool)) = _
    rw [chunkB xs]; rfl
theorem frzA_mslB {i g n : Nat} {xs : List Bool} (hn : xs.length = n) : frzA i g (xs.map AV.bool) (.msl i g n 1) = .slc 1 (blR xs) .non := by
  subst hn
  show (if i = i ∧ g = g ∧ xs.length * 1 = (xs.map AV.bool).length then _ else _) = _
  rw [if_pos ⟨rfl, rfl, by simp⟩, chunkB]
end
/-- Which owners are marked, by a set of owners. -/
def MrkB (B : List Bool) (Q : Int → Prop) : Prop := B.length = 21 ∧ ∀ k : Nat, k < 21 → (B.getD k false = true ↔ Q ((k : Int) - 1))
theorem MrkB.put {B : List Bool} {Q Q' : Int → Prop} (h : MrkB B Q) {w : Int} (hw : -1 ≤ w ∧ w ≤ 19) (hQ : ∀ v, Q' v ↔ Q v ∨ v = w) : MrkB (B.set (w + 1).toNat true) Q' := by
  refine ⟨by rw [List.length_set]; exact h.1, fun k hk => ?_⟩
  rw [hQ, ← h.2 k hk, List.getD_eq_getElem?_getD, List.getD_eq_getElem?_getD]
  by_cases e : (w + 1).toNat = k
  · rw [e, List.getElem?_set_self (by rw [h.1]; omega)]
    exact ⟨fun _ => .inr (by omega), fun _ => rfl⟩
  · rw [List.getElem?_set_ne e]
    exact ⟨.inl, fun h2 => h2.elim id fun h3 => absurd (by omega) e⟩
theorem MrkB.congr {B : List Bool} {Q Q' : Int → Prop} (h : MrkB B Q) (hQ : ∀ v, Q' v ↔ Q v) : MrkB B Q' := ⟨h.1, fun k hk => by rw [hQ]; exact h.2 k hk⟩
theorem whoAt_in {c : Chn} (ok : Okc c) (o : List Int) (j : Nat) : 0 ≤ whoAt c o j ∧ whoAt c o j ≤ 19 := whoAt_nn ok o j
theorem rholders_s (c : Chn) (day : Int) (ok : Okc c) : Fn0 Try.prog 103 [cA c, .int .i64 day] (fun v => ∃ B : List Bool, v = .slc 1 (blR B) .non ∧ MrkB B (holdC c day)) := by
  have hS := Stories_s c ok
  have hn7 := ok.n
  obtain ⟨T, hT⟩ : ∃ T, T = (talesF c).map (·.1) := ⟨_, rfl⟩
  have hTl : T.length ≤ 10 ^ 9 := by
    rw [hT, ← SLr_tales]
    have h1 := SLr_len c ok.n c.ls.length [] c.maker ok.n
    have : 10 ^ c.ls.length ≤ 10 ^ 7 := Nat.pow_le_pow_right (by omega) ok.n
    omega
  have hTp : ∀ o ∈ T, isPerm c.ls.length o := fun o ho => by
    rw [hT] at ho
    obtain ⟨x, hx, rfl⟩ := List.mem_map.1 ho
    exact tale_perm hx
  have hC : ∀ w, holdC c day w ↔ ∃ o ∈ T, holdT c day (o, leO c o) w := fun w => by
    rw [hT]
    constructor
    · rintro ⟨x, hx, h⟩
      refine ⟨x.1, List.mem_map.2 ⟨x, hx, rfl⟩, ?_⟩
      have := (tale_iff.1 hx).2.2
      rw [← this]; exact h
    · rintro ⟨o, ho, h⟩
      obtain ⟨x, hx, rfl⟩ := List.mem_map.1 ho
      refine ⟨x, hx, ?_⟩
      have := (tale_iff.1 hx).2.2
      rw [← this] at h; exact h
  rw [← hT] at hS
  have hleL : ∀ o, (leO c o).length = o.length + 1 := fun o => by rw [leO, List.length_cons, leB_len]
  have hlaL : ∀ o, (latF c o).length = o.length + 1 := fun o => by rw [latF_B, latB_len]; simp
  have hdone : ∀ B, MrkB B (fun w => ∃ o ∈ T, holdT c day (o, leO c o) w) → MrkB B (holdC c day) := fun B h => h.congr hC
  clear hC hT
  refine RawC.walk (H := hint103 Try.prog) ir103 Try.func103 rfl rfl rfl ?_
  unfold ir103
  repeat' (first
    | with_reducible (first | refine Rd.p ?_ | refine w_alt ?_ ?_ | refine zE ?_ | refine zE0 ?_)
    | (refine w_mksB (n := 21) rfl (by omega) ?_; intro _)
    | with_reducible (first | refine zI fun y hy => ?_ | refine zL ?_ | refine zS ?_ | refine zA fun _ => ?_ | refine zV ?_ | refine zC ?_ | refine zG ?_ | refine zU ?_ | refine zG0 ?_ | refine zU0 ?_ | refine zF ?_)
    | ((with_reducible refine acall_id ?_); refine ACall.val hS rfl rfl ?_)
    | with_reducible (first | refine zX ?_ | refine zD fun _ => ?_ | refine zD0 ?_ | refine zN ?_ | refine zF0 ?_ | refine zX0 ?_ | refine z1 ?_ | refine z2 ?_ | refine z3 ?_ | refine z4 ?_ | refine z5 ?_ | refine z6 ?_ | refine z7 ?_ | refine z8 ?_ | refine y1 ?_ | refine y2 ?_ | refine y3 ?_ | refine y4 ?_ | refine y5 ?_ | refine y6 ?_ | refine y7 ?_ | refine y8 ?_ | refine Rt.p (fun _ => ?_) fun _ => ?_)
    | ((with_reducible apply w_ixM); (focus exact rfl); (focus exact rfl); case' hk => intro y hy) | ((with_reducible (first | apply w_val | apply q_ends)); (focus exact rfl)))
  rename_i g2 g5
  refine w_loopK [1, 2, 5, 6] [2] (fun x : List (List Int) × List (List Int) × List Bool => T = x.1 ++ x.2.1 ∧ MrkB x.2.2 (fun w => ∃ o ∈ x.1, holdT c day (o, leO c o) w)) (fun x => x.2.1.length) (fun x => [(7, .int .i64 x.1.length)]) (fun x => [(11, (g5, .row (x.2.2.map AV.bool)))]) ([], T, List.replicate 21 false) ⟨rfl, List.length_replicate, fun k hk => by
    rw [List.getD_eq_getElem?_getD, List.getElem?_replicate_of_lt hk]; simp⟩ ⟨rfl, trivial⟩ (by exact ⟨rfl, trivial⟩) ?_
  rintro ⟨pre, post, B⟩ ⟨hpp, hB⟩ e σ
  dsimp only at hpp hB ⊢
  have hlen := congrArg List.length hpp
  rw [List.length_append] at hlen
  have hBl := hB.1
  cases post with
  | nil =>
    simp only [List.length_nil] at hlen
    rw [List.append_nil] at hpp
    rw [← hpp] at hB
    have hB := hdone B hB
    repeat' (first
      | with_reducible (first | refine Rd.p ?_ | refine w_alt ?_ ?_ | refine zE ?_ | refine zE0 ?_)
      | with_reducible (first | refine zI fun y hy => ?_ | refine zL ?_ | refine zS ?_ | refine zA fun _ => ?_ | refine zV ?_ | refine zC ?_ | refine zG ?_ | refine zU ?_ | refine zG0 ?_ | refine zU0 ?_ | refine zF ?_)
      | (refine w_frzG [(5, .slc 1 (blR B) .non)] [] rfl rfl (by simp [AV.scal]) ⟨frzA_mslB hBl, trivial⟩ trivial ?_; intro e σ)
      | with_reducible (first | refine zX ?_ | refine zD fun _ => ?_ | refine zD0 ?_ | refine zN ?_ | refine zF0 ?_ | refine zX0 ?_ | refine z1 ?_ | refine z2 ?_ | refine z3 ?_ | refine z4 ?_ | refine z5 ?_ | refine z6 ?_ | refine z7 ?_ | refine z8 ?_ | refine y1 ?_ | refine y2 ?_ | refine y3 ?_ | refine y4 ?_ | refine y5 ?_ | refine y6 ?_ | refine y7 ?_ | refine y8 ?_ | refine Rt.p (fun _ => ?_) fun _ => ?_)
      | ((with_reducible apply w_ixM); (focus exact rfl); (focus exact rfl); case' hk => intro y hy) | ((with_reducible (first | apply w_val | apply q_ends)); (focus exact rfl)))
    all_goals first
      | (exfalso; omega)
      | exact ⟨B, rfl, hB⟩
  | cons o post =>
    simp only [List.length_cons] at hlen
    have hop := hTp o (by rw [hpp]; simp)
    have hol := hop.len
    have hgo : T[pre.length]? = some o := by rw [hpp]; simp
    have hla0 : (latF c o)[0]? = some (getI (latF c o) 0) := getI_some (k := 0) (by rw [hlaL]; omega)
    obtain ⟨B1, hB1, hB1'⟩ : ∃ B1, B1 = (if day < getI (latF c o) 0 then B.set ((0 : Int).toNat * 1) true else B) ∧ MrkB B1 (fun w => (∃ o' ∈ pre, holdT c day (o', leO c o') w) ∨ (w = -1 ∧ day < getI (latF c o) 0)) := by
      refine ⟨_, rfl, ?_⟩
      by_cases hd : day < getI (latF c o) 0
      · rw [if_pos hd]
        exact hB.put (Q' := fun w => (∃ o' ∈ pre, holdT c day (o', leO c o') w) ∨ (w = -1 ∧ day < getI (latF c o) 0)) (w := -1) (by omega) fun v => by
          constructor
          · rintro (h | h)
            · exact .inl h
            · exact .inr h.1
          · rintro (h | h)
            · exact .inl h
            · exact .inr ⟨h, hd⟩
      · rw [if_neg hd]
        exact hB.congr fun v => ⟨fun h => h.elim id fun h => absurd h.2 hd, .inl⟩
    have hB1l := hB1'.1
    by_cases hd : day < getI (latF c o) 0
    case' pos => rw [if_pos hd] at hB1
    case' neg => rw [if_neg hd] at hB1
    all_goals
      repeat' (first
        | with_reducible (first | refine Rd.p ?_ | refine w_alt ?_ ?_ | refine zE ?_ | refine zE0 ?_)
        | (first | refine w_ixE (f := stR c) hgo rfl rfl ?_ | refine w_ixE hla0 rfl rfl ?_ | refine w_stB rfl rfl rfl (by show (0 : Int).toNat * 1 < _; omega) ?_)
        | with_reducible (first | refine zI fun y hy => ?_ | refine zL ?_ | refine zS ?_ | refine zA fun _ => ?_ | refine zV ?_ | refine zC ?_ | refine zG ?_ | refine zU ?_ | refine zG0 ?_ | refine zU0 ?_ | refine zF ?_)
        | with_reducible (first | refine zX ?_ | refine zD fun _ => ?_ | refine zD0 ?_ | refine zN ?_ | refine zF0 ?_ | refine zX0 ?_ | refine z1 ?_ | refine z2 ?_ | refine z3 ?_ | refine z4 ?_ | refine z5 ?_ | refine z6 ?_ | refine z7 ?_ | refine z8 ?_ | refine y1 ?_ | refine y2 ?_ | refine y3 ?_ | refine y4 ?_ | refine y5 ?_ | refine y6 ?_ | refine y7 ?_ | refine y8 ?_ | refine Rt.p (fun _ => ?_) fun _ => ?_)
        | ((with_reducible apply w_ixM); (focus exact rfl); (focus exact rfl); case' hk => intro y hy) | ((with_reducible (first | apply w_val | apply q_ends)); (focus exact rfl)))
      all_goals try (exfalso; omega)
      rename_i g8
      refine w_loopK [1, 2, 5, 6, 7, 8] [2, 8] (fun x : Nat × List Bool => x.1 ≤ o.length + 1 ∧ MrkB x.2 (fun w => ((∃ o' ∈ pre, holdT c day (o', leO c o') w) ∨ (w = -1 ∧ day < getI (latF c o) 0)) ∨ ∃ j : Nat, j < x.1 ∧ w = whoAt c o j ∧ holdJ c day (o, leO c o) j)) (fun x => o.length + 1 - x.1) (fun x => [(10, .int .i64 x.1), (9, .int .i64 (whoAt c o (x.1 - 1)))]) (fun x => [(11, (g5, .row (x.2.map AV.bool)))]) (0, B1) ⟨Nat.zero_le _, hB1'.congr fun v => ⟨fun h => h.elim id fun ⟨j, h, _⟩ => absurd h (Nat.not_lt_zero _), .inl⟩⟩ ⟨rfl, rfl, trivial⟩ (by refine slots_cons ?_ slots_nil; rw [hB1]; rfl) ?_
      rintro ⟨j, B2⟩ ⟨hj, hB2⟩ e σ
      dsimp only at hj hB2 ⊢
      have hB2l := hB2.1
      by_cases hjn : j < o.length + 1
      case neg =>
        have hje : j = o.length + 1 := by omega
        subst hje
        repeat' (first
          | with_reducible (first | refine Rd.p ?_ | refine w_alt ?_ ?_ | refine zE ?_ | refine zE0 ?_)
          | with_reducible (first | refine zI fun y hy => ?_ | refine zL ?_ | refine zS ?_ | refine zA fun _ => ?_ | refine zV ?_ | refine zC ?_ | refine zG ?_ | refine zU ?_ | refine zG0 ?_ | refine zU0 ?_ | refine zF ?_)
          | with_reducible (first | refine zX ?_ | refine zD fun _ => ?_ | refine zD0 ?_ | refine zN ?_ | refine zF0 ?_ | refine zX0 ?_ | refine z1 ?_ | refine z2 ?_ | refine z3 ?_ | refine z4 ?_ | refine z5 ?_ | refine z6 ?_ | refine z7 ?_ | refine z8 ?_ | refine y1 ?_ | refine y2 ?_ | refine y3 ?_ | refine y4 ?_ | refine y5 ?_ | refine y6 ?_ | refine y7 ?_ | refine y8 ?_ | refine Rt.p (fun _ => ?_) fun _ => ?_)
          | ((with_reducible apply w_ixM); (focus exact rfl); (focus exact rfl); case' hk => intro y hy) | ((with_reducible (first | apply w_val | apply q_ends)); (focus exact rfl)))
        all_goals try (exfalso; simp_all; done)
        all_goals first
          | (exfalso; omega)
          | (refine q_loop (pre ++ [o], post, B2) ⟨by show T = _; rw [hpp]; simp, hB2.congr fun v => ?_⟩ (by simp) (slots_cons (by show AV.int .i64 _ = AV.int .i64 _; refine int_eq ?_; simp) slots_nil) (by exact ⟨rfl, trivial⟩) (by repeat' (first | exact kept_nil | apply kept_cons | rfl)) (by repeat' (first | exact kept_nil | apply kept_cons | rfl))
             constructor
             · rintro ⟨o', ho', h⟩
               rcases List.mem_append.1 ho' with ho' | ho'
               · exact .inl (.inl ⟨o', ho', h⟩)
               · rw [List.mem_singleton] at ho'
                 subst ho'
                 rcases h with h | ⟨i, h1, h2, h3⟩
                 · exact .inl (.inr h)
                 · exact .inr ⟨i, by omega, h2, h3⟩
             · rintro ((⟨o', ho', h⟩ | h) | ⟨i, h1, h2, h3⟩)
               · exact ⟨o', by simp [ho'], h⟩
               · exact ⟨o, by simp, .inl h⟩
               · exact ⟨o, by simp, .inr ⟨i, by omega, h2, h3⟩⟩)
      have hlej : (leO c o)[j]? = some (getI (leO c o) (j : Int)) := getI_some (by rw [hleL]; omega)
      have hwb := whoAt_in ok o j
      have hjb : holdJ c day (o, leO c o) j ↔ getI (leO c o) j ≤ day ∧ (j = o.length ∨ day < getI (latF c o) ((j : Int) + 1)) := by
        unfold holdJ; rw [hol]
      have hlajn : j < o.length → (latF c o)[j + 1]? = some (getI (latF c o) ((j : Int) + 1)) := fun h => getI_some (k := j + 1) (by rw [hlaL]; omega)
      have hnx1 : holdJ c day (o, leO c o) j → MrkB (B2.set (whoAt c o j + 1).toNat true) (fun w => ((∃ o' ∈ pre, holdT c day (o', leO c o') w) ∨ (w = -1 ∧ day < getI (latF c o) 0)) ∨ ∃ i : Nat, i < j + 1 ∧ w = whoAt c o i ∧ holdJ c day (o, leO c o) i) := fun hh => by
        refine hB2.put (by omega) fun v => ?_
        constructor
        · rintro (h | ⟨i, h1, h2, h3⟩)
          · exact .inl (.inl h)
          · by_cases e : i = j
            · subst e; exact .inr h2
            · exact .inl (.inr ⟨i, by omega, h2, h3⟩)
        · rintro ((h | ⟨i, h1, h2, h3⟩) | h)
          · exact .inl h
          · exact .inr ⟨i, by omega, h2, h3⟩
          · exact .inr ⟨j, by omega, h, hh⟩
      have hnx2 : ¬ holdJ c day (o, leO c o) j → MrkB B2 (fun w => ((∃ o' ∈ pre, holdT c day (o', leO c o') w) ∨ (w = -1 ∧ day < getI (latF c o) 0)) ∨ ∃ i : Nat, i < j + 1 ∧ w = whoAt c o i ∧ holdJ c day (o, leO c o) i) := fun hh => by
        refine hB2.congr fun v => ?_
        constructor
        · rintro (h | ⟨i, h1, h2, h3⟩)
          · exact .inl h
          · by_cases e : i = j
            · subst e; exact absurd h3 hh
            · exact .inr ⟨i, by omega, h2, h3⟩
        · rintro (h | ⟨i, h1, h2, h3⟩)
          · exact .inl h
          · exact .inr ⟨i, by omega, h2, h3⟩
      have hle' := hleL o
      have hla' := hlaL o
      cases j with
      | zero =>
        generalize hW : whoAt c o 0 = W at *
        by_cases h1 : getI (leO c o) ((0 : Nat) : Int) ≤ day
        · by_cases h2 : 0 = o.length
          · have hh := hnx1 (hjb.2 ⟨h1, .inl h2⟩)
            have hla1 := hla0
            repeat' (first
              | with_reducible (first | refine Rd.p ?_ | refine w_alt ?_ ?_ | refine zE ?_ | refine zE0 ?_)
              | (first | refine w_ixE (f := stR c) hgo rfl rfl ?_ | refine w_ixE hlej rfl rfl ?_ | refine w_ixE hla1 rfl rfl ?_ | refine w_stB rfl rfl rfl (by omega) ?_)
              | with_reducible (first | refine zI fun y hy => ?_ | refine zL ?_ | refine zS ?_ | refine zA fun _ => ?_ | refine zV ?_ | refine zC ?_ | refine zG ?_ | refine zU ?_ | refine zG0 ?_ | refine zU0 ?_ | refine zF ?_)
              | with_reducible (first | refine zX ?_ | refine zD fun _ => ?_ | refine zD0 ?_ | refine zN ?_ | refine zF0 ?_ | refine zX0 ?_ | refine z1 ?_ | refine z2 ?_ | refine z3 ?_ | refine z4 ?_ | refine z5 ?_ | refine z6 ?_ | refine z7 ?_ | refine z8 ?_ | refine y1 ?_ | refine y2 ?_ | refine y3 ?_ | refine y4 ?_ | refine y5 ?_ | refine y6 ?_ | refine y7 ?_ | refine y8 ?_ | refine Rt.p (fun _ => ?_) fun _ => ?_)
              | ((with_reducible apply w_ixM); (focus exact rfl); (focus exact rfl); case' hk => intro y hy) | ((with_reducible (first | apply w_val | apply q_ends)); (focus exact rfl)))
            all_goals first
              | (exfalso; omega)
              | (refine q_loop (0 + 1, _) ⟨by dsimp only; omega, hh⟩ (by dsimp only; omega) (slots_cons (by show AV.int .i64 _ = AV.int .i64 _; refine int_eq ?_; simp) (slots_cons (by show AV.int .i64 _ = AV.int .i64 _; refine int_eq ?_; first | rfl | exact hW.symm) slots_nil)) (slots_cons (by show (g5, Res.row _) = (g5, Res.row _); first | rfl | rw [Nat.mul_one]) slots_nil) (by repeat' (first | exact kept_nil | apply kept_cons | rfl)) (by repeat' (first | exact kept_nil | apply kept_cons | rfl)))
          · have hla1 := hlajn (by omega)
            by_cases h3 : day < getI (latF c o) (((0 : Nat) : Int) + 1)
            · have hh := hnx1 (hjb.2 ⟨h1, .inr h3⟩)
              repeat' (first
                | with_reducible (first | refine Rd.p ?_ | refine w_alt ?_ ?_ | refine zE ?_ | refine zE0 ?_)
                | (first | refine w_ixE (f := stR c) hgo rfl rfl ?_ | refine w_ixE hlej rfl rfl ?_ | refine w_ixE hla1 rfl rfl ?_ | refine w_stB rfl rfl rfl (by omega) ?_)
                | with_reducible (first | refine zI fun y hy => ?_ | refine zL ?_ | refine zS ?_ | refine zA fun _ => ?_ | refine zV ?_ | refine zC ?_ | refine zG ?_ | refine zU ?_ | refine zG0 ?_ | refine zU0 ?_ | refine zF ?_)
                | with_reducible (first | refine zX ?_ | refine zD fun _ => ?_ | refine zD0 ?_ | refine zN ?_ | refine zF0 ?_ | refine zX0 ?_ | refine z1 ?_ | refine z2 ?_ | refine z3 ?_ | refine z4 ?_ | refine z5 ?_ | refine z6 ?_ | refine z7 ?_ | refine z8 ?_ | refine y1 ?_ | refine y2 ?_ | refine y3 ?_ | refine y4 ?_ | refine y5 ?_ | refine y6 ?_ | refine y7 ?_ | refine y8 ?_ | refine Rt.p (fun _ => ?_) fun _ => ?_)
                | ((with_reducible apply w_ixM); (focus exact rfl); (focus exact rfl); case' hk => intro y hy) | ((with_reducible (first | apply w_val | apply q_ends)); (focus exact rfl)))
              all_goals first
                | (exfalso; omega)
                | (refine q_loop (0 + 1, _) ⟨by dsimp only; omega, hh⟩ (by dsimp only; omega) (slots_cons (by show AV.int .i64 _ = AV.int .i64 _; refine int_eq ?_; simp) (slots_cons (by show AV.int .i64 _ = AV.int .i64 _; refine int_eq ?_; first | rfl | exact hW.symm) slots_nil)) (slots_cons (by show (g5, Res.row _) = (g5, Res.row _); first | rfl | rw [Nat.mul_one]) slots_nil) (by repeat' (first | exact kept_nil | apply kept_cons | rfl)) (by repeat' (first | exact kept_nil | apply kept_cons | rfl)))
            · have hh := hnx2 (fun h => (hjb.1 h).2.elim h2 h3)
              repeat' (first
                | with_reducible (first | refine Rd.p ?_ | refine w_alt ?_ ?_ | refine zE ?_ | refine zE0 ?_)
                | (first | refine w_ixE (f := stR c) hgo rfl rfl ?_ | refine w_ixE hlej rfl rfl ?_ | refine w_ixE hla1 rfl rfl ?_ | refine w_stB rfl rfl rfl (by omega) ?_)
                | with_reducible (first | refine zI fun y hy => ?_ | refine zL ?_ | refine zS ?_ | refine zA fun _ => ?_ | refine zV ?_ | refine zC ?_ | refine zG ?_ | refine zU ?_ | refine zG0 ?_ | refine zU0 ?_ | refine zF ?_)
                | with_reducible (first | refine zX ?_ | refine zD fun _ => ?_ | refine zD0 ?_ | refine zN ?_ | refine zF0 ?_ | refine zX0 ?_ | refine z1 ?_ | refine z2 ?_ | refine z3 ?_ | refine z4 ?_ | refine z5 ?_ | refine z6 ?_ | refine z7 ?_ | refine z8 ?_ | refine y1 ?_ | refine y2 ?_ | refine y3 ?_ | refine y4 ?_ | refine y5 ?_ | refine y6 ?_ | refine y7 ?_ | refine y8 ?_ | refine Rt.p (fun _ => ?_) fun _ => ?_)
                | ((with_reducible apply w_ixM); (focus exact rfl); (focus exact rfl); case' hk => intro y hy) | ((with_reducible (first | apply w_val | apply q_ends)); (focus exact rfl)))
              all_goals first
                | (exfalso; omega)
                | (refine q_loop (0 + 1, _) ⟨by dsimp only; omega, hh⟩ (by dsimp only; omega) (slots_cons (by show AV.int .i64 _ = AV.int .i64 _; refine int_eq ?_; simp) (slots_cons (by show AV.int .i64 _ = AV.int .i64 _; refine int_eq ?_; first | rfl | exact hW.symm) slots_nil)) (slots_cons (by show (g5, Res.row _) = (g5, Res.row _); first | rfl | rw [Nat.mul_one]) slots_nil) (by repeat' (first | exact kept_nil | apply kept_cons | rfl)) (by repeat' (first | exact kept_nil | apply kept_cons | rfl)))
        · have hh := hnx2 (fun h => h1 (hjb.1 h).1)
          have hla1 := hla0
          repeat' (first
            | with_reducible (first | refine Rd.p ?_ | refine w_alt ?_ ?_ | refine zE ?_ | refine zE0 ?_)
            | (first | refine w_ixE (f := stR c) hgo rfl rfl ?_ | refine w_ixE hlej rfl rfl ?_ | refine w_ixE hla1 rfl rfl ?_ | refine w_stB rfl rfl rfl (by omega) ?_)
            | with_reducible (first | refine zI fun y hy => ?_ | refine zL ?_ | refine zS ?_ | refine zA fun _ => ?_ | refine zV ?_ | refine zC ?_ | refine zG ?_ | refine zU ?_ | refine zG0 ?_ | refine zU0 ?_ | refine zF ?_)
            | with_reducible (first | refine zX ?_ | refine zD fun _ => ?_ | refine zD0 ?_ | refine zN ?_ | refine zF0 ?_ | refine zX0 ?_ | refine z1 ?_ | refine z2 ?_ | refine z3 ?_ | refine z4 ?_ | refine z5 ?_ | refine z6 ?_ | refine z7 ?_ | refine z8 ?_ | refine y1 ?_ | refine y2 ?_ | refine y3 ?_ | refine y4 ?_ | refine y5 ?_ | refine y6 ?_ | refine y7 ?_ | refine y8 ?_ | refine Rt.p (fun _ => ?_) fun _ => ?_)
            | ((with_reducible apply w_ixM); (focus exact rfl); (focus exact rfl); case' hk => intro y hy) | ((with_reducible (first | apply w_val | apply q_ends)); (focus exact rfl)))
          all_goals first
            | (exfalso; omega)
            | (refine q_loop (0 + 1, _) ⟨by dsimp only; omega, hh⟩ (by dsimp only; omega) (slots_cons (by show AV.int .i64 _ = AV.int .i64 _; refine int_eq ?_; simp) (slots_cons (by show AV.int .i64 _ = AV.int .i64 _; refine int_eq ?_; first | rfl | exact hW.symm) slots_nil)) (slots_cons (by show (g5, Res.row _) = (g5, Res.row _); first | rfl | rw [Nat.mul_one]) slots_nil) (by repeat' (first | exact kept_nil | apply kept_cons | rfl)) (by repeat' (first | exact kept_nil | apply kept_cons | rfl)))
      | succ i =>
        have hoi : o[i]? = some (getI o (i : Int)) := getI_some (by omega)
        have hz := hop.bd (getI o (i : Int)) (List.mem_of_getElem? hoi)
        rw [← hol] at hz
        have hz : 0 ≤ getI o (i : Int) ∧ getI o (i : Int) < (c.ls.length : Int) := by rw [← hol]; exact hz
        have hW : whoAt c o (i + 1) = (lkAt c.ls (getI o (i : Int))).t := rfl
        generalize whoAt c o (i + 1) = W at *
        subst hW
        by_cases h1 : getI (leO c o) (((i + 1) : Nat) : Int) ≤ day
        · by_cases h2 : (i + 1) = o.length
          · have hh := hnx1 (hjb.2 ⟨h1, .inl h2⟩)
            have hla1 := hla0
            repeat' (first
              | with_reducible (first | refine Rd.p ?_ | refine w_alt ?_ ?_ | refine zE ?_ | refine zE0 ?_)
              | (first | refine w_ixE (f := stR c) hgo rfl rfl ?_ | refine w_ixE hlej rfl rfl ?_ | refine w_ixE hla1 rfl rfl ?_ | refine w_ixE hoi rfl (by show AV.int .i64 _ = AV.int .i64 _; refine int_eq ?_; omega) ?_ | refine w_ixL rfl rfl hz ?_ | refine w_stB rfl rfl rfl (by omega) ?_)
              | with_reducible (first | refine zI fun y hy => ?_ | refine zL ?_ | refine zS ?_ | refine zA fun _ => ?_ | refine zV ?_ | refine zC ?_ | refine zG ?_ | refine zU ?_ | refine zG0 ?_ | refine zU0 ?_ | refine zF ?_)
              | with_reducible (first | refine zX ?_ | refine zD fun _ => ?_ | refine zD0 ?_ | refine zN ?_ | refine zF0 ?_ | refine zX0 ?_ | refine z1 ?_ | refine z2 ?_ | refine z3 ?_ | refine z4 ?_ | refine z5 ?_ | refine z6 ?_ | refine z7 ?_ | refine z8 ?_ | refine y1 ?_ | refine y2 ?_ | refine y3 ?_ | refine y4 ?_ | refine y5 ?_ | refine y6 ?_ | refine y7 ?_ | refine y8 ?_ | refine Rt.p (fun _ => ?_) fun _ => ?_)
              | ((with_reducible apply w_ixM); (focus exact rfl); (focus exact rfl); case' hk => intro y hy) | ((with_reducible (first | apply w_val | apply q_ends)); (focus exact rfl)))
            all_goals first
              | (exfalso; omega)
              | (refine q_loop ((i + 1) + 1, _) ⟨by dsimp only; omega, hh⟩ (by dsimp only; omega) (slots_cons (by show AV.int .i64 _ = AV.int .i64 _; refine int_eq ?_; simp) (slots_cons (by show AV.int .i64 _ = AV.int .i64 _; refine int_eq ?_; first | rfl | exact hW.symm) slots_nil)) (slots_cons (by show (g5, Res.row _) = (g5, Res.row _); first | rfl | rw [Nat.mul_one]) slots_nil) (by repeat' (first | exact kept_nil | apply kept_cons | rfl)) (by repeat' (first | exact kept_nil | apply kept_cons | rfl)))
          · have hla1 := hlajn (by omega)
            by_cases h3 : day < getI (latF c o) ((((i + 1) : Nat) : Int) + 1)
            · have hh := hnx1 (hjb.2 ⟨h1, .inr h3⟩)
              repeat' (first
                | with_reducible (first | refine Rd.p ?_ | refine w_alt ?_ ?_ | refine zE ?_ | refine zE0 ?_)
                | (first | refine w_ixE (f := stR c) hgo rfl rfl ?_ | refine w_ixE hlej rfl rfl ?_ | refine w_ixE hla1 rfl rfl ?_ | refine w_ixE hoi rfl (by show AV.int .i64 _ = AV.int .i64 _; refine int_eq ?_; omega) ?_ | refine w_ixL rfl rfl hz ?_ | refine w_stB rfl rfl rfl (by omega) ?_)
                | with_reducible (first | refine zI fun y hy => ?_ | refine zL ?_ | refine zS ?_ | refine zA fun _ => ?_ | refine zV ?_ | refine zC ?_ | refine zG ?_ | refine zU ?_ | refine zG0 ?_ | refine zU0 ?_ | refine zF ?_)
                | with_reducible (first | refine zX ?_ | refine zD fun _ => ?_ | refine zD0 ?_ | refine zN ?_ | refine zF0 ?_ | refine zX0 ?_ | refine z1 ?_ | refine z2 ?_ | refine z3 ?_ | refine z4 ?_ | refine z5 ?_ | refine z6 ?_ | refine z7 ?_ | refine z8 ?_ | refine y1 ?_ | refine y2 ?_ | refine y3 ?_ | refine y4 ?_ | refine y5 ?_ | refine y6 ?_ | refine y7 ?_ | refine y8 ?_ | refine Rt.p (fun _ => ?_) fun _ => ?_)
                | ((with_reducible apply w_ixM); (focus exact rfl); (focus exact rfl); case' hk => intro y hy) | ((with_reducible (first | apply w_val | apply q_ends)); (focus exact rfl)))
              all_goals first
                | (exfalso; omega)
                | (refine q_loop ((i + 1) + 1, _) ⟨by dsimp only; omega, hh⟩ (by dsimp only; omega) (slots_cons (by show AV.int .i64 _ = AV.int .i64 _; refine int_eq ?_; simp) (slots_cons (by show AV.int .i64 _ = AV.int .i64 _; refine int_eq ?_; first | rfl | exact hW.symm) slots_nil)) (slots_cons (by show (g5, Res.row _) = (g5, Res.row _); first | rfl | rw [Nat.mul_one]) slots_nil) (by repeat' (first | exact kept_nil | apply kept_cons | rfl)) (by repeat' (first | exact kept_nil | apply kept_cons | rfl)))
            · have hh := hnx2 (fun h => (hjb.1 h).2.elim h2 h3)
              repeat' (first
                | with_reducible (first | refine Rd.p ?_ | refine w_alt ?_ ?_ | refine zE ?_ | refine zE0 ?_)
                | (first | refine w_ixE (f := stR c) hgo rfl rfl ?_ | refine w_ixE hlej rfl rfl ?_ | refine w_ixE hla1 rfl rfl ?_ | refine w_ixE hoi rfl (by show AV.int .i64 _ = AV.int .i64 _; refine int_eq ?_; omega) ?_ | refine w_ixL rfl rfl hz ?_ | refine w_stB rfl rfl rfl (by omega) ?_)
                | with_reducible (first | refine zI fun y hy => ?_ | refine zL ?_ | refine zS ?_ | refine zA fun _ => ?_ | refine zV ?_ | refine zC ?_ | refine zG ?_ | refine zU ?_ | refine zG0 ?_ | refine zU0 ?_ | refine zF ?_)
                | with_reducible (first | refine zX ?_ | refine zD fun _ => ?_ | refine zD0 ?_ | refine zN ?_ | refine zF0 ?_ | refine zX0 ?_ | refine z1 ?_ | refine z2 ?_ | refine z3 ?_ | refine z4 ?_ | refine z5 ?_ | refine z6 ?_ | refine z7 ?_ | refine z8 ?_ | refine y1 ?_ | refine y2 ?_ | refine y3 ?_ | refine y4 ?_ | refine y5 ?_ | refine y6 ?_ | refine y7 ?_ | refine y8 ?_ | refine Rt.p (fun _ => ?_) fun _ => ?_)
                | ((with_reducible apply w_ixM); (focus exact rfl); (focus exact rfl); case' hk => intro y hy) | ((with_reducible (first | apply w_val | apply q_ends)); (focus exact rfl)))
              all_goals first
                | (exfalso; omega)
                | (refine q_loop ((i + 1) + 1, _) ⟨by dsimp only; omega, hh⟩ (by dsimp only; omega) (slots_cons (by show AV.int .i64 _ = AV.int .i64 _; refine int_eq ?_; simp) (slots_cons (by show AV.int .i64 _ = AV.int .i64 _; refine int_eq ?_; first | rfl | exact hW.symm) slots_nil)) (slots_cons (by show (g5, Res.row _) = (g5, Res.row _); first | rfl | rw [Nat.mul_one]) slots_nil) (by repeat' (first | exact kept_nil | apply kept_cons | rfl)) (by repeat' (first | exact kept_nil | apply kept_cons | rfl)))
        · have hh := hnx2 (fun h => h1 (hjb.1 h).1)
          have hla1 := hla0
          repeat' (first
            | with_reducible (first | refine Rd.p ?_ | refine w_alt ?_ ?_ | refine zE ?_ | refine zE0 ?_)
            | (first | refine w_ixE (f := stR c) hgo rfl rfl ?_ | refine w_ixE hlej rfl rfl ?_ | refine w_ixE hla1 rfl rfl ?_ | refine w_ixE hoi rfl (by show AV.int .i64 _ = AV.int .i64 _; refine int_eq ?_; omega) ?_ | refine w_ixL rfl rfl hz ?_ | refine w_stB rfl rfl rfl (by omega) ?_)
            | with_reducible (first | refine zI fun y hy => ?_ | refine zL ?_ | refine zS ?_ | refine zA fun _ => ?_ | refine zV ?_ | refine zC ?_ | refine zG ?_ | refine zU ?_ | refine zG0 ?_ | refine zU0 ?_ | refine zF ?_)
            | with_reducible (first | refine zX ?_ | refine zD fun _ => ?_ | refine zD0 ?_ | refine zN ?_ | refine zF0 ?_ | refine zX0 ?_ | refine z1 ?_ | refine z2 ?_ | refine z3 ?_ | refine z4 ?_ | refine z5 ?_ | refine z6 ?_ | refine z7 ?_ | refine z8 ?_ | refine y1 ?_ | refine y2 ?_ | refine y3 ?_ | refine y4 ?_ | refine y5 ?_ | refine y6 ?_ | refine y7 ?_ | refine y8 ?_ | refine Rt.p (fun _ => ?_) fun _ => ?_)
            | ((with_reducible apply w_ixM); (focus exact rfl); (focus exact rfl); case' hk => intro y hy) | ((with_reducible (first | apply w_val | apply q_ends)); (focus exact rfl)))
          all_goals first
            | (exfalso; omega)
            | (refine q_loop ((i + 1) + 1, _) ⟨by dsimp only; omega, hh⟩ (by dsimp only; omega) (slots_cons (by show AV.int .i64 _ = AV.int .i64 _; refine int_eq ?_; simp) (slots_cons (by show AV.int .i64 _ = AV.int .i64 _; refine int_eq ?_; first | rfl | exact hW.symm) slots_nil)) (slots_cons (by show (g5, Res.row _) = (g5, Res.row _); first | rfl | rw [Nat.mul_one]) slots_nil) (by repeat' (first | exact kept_nil | apply kept_cons | rfl)) (by repeat' (first | exact kept_nil | apply kept_cons | rfl)))
end Go.Abs
