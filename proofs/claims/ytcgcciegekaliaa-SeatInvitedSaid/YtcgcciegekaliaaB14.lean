/- A part of the proofs of the laws of this seat: contracts of the functions that they reach, each proved of the program's form in Lean. No condition beyond those that each contract names. -/
import Derived.Test.YtcgcciegekaliaaB0
import Derived.Test.YtcgcciegekaliaaB6
import Derived.Test.YtcgcciegekaliaaB5
import Derived.Test.YtcgcciegekaliaaB7
import Derived.Test.YtcgcciegekaliaaB1
import Derived.Test.YtcgcciegekaliaaB13
import Derived.Test.YtcgcciegekaliaaB4
set_option linter.unusedVariables false
set_option linter.unusedSimpArgs false
set_option maxRecDepth 20000
set_option maxHeartbeats 4000000
/-! ### SeatMenu -/
namespace Go.Abs
open Go.Proofs
/-- aloeswood/aloeswoodlaw08.SeatMenu -/
def ir4 : IFn :=
  ⟨161, [(2, none)], (.seq (.ops [⟨(some 2), none, (.mov (.k (.bool false)))⟩])
  (.seq (.ops [⟨(some 22), none, (.mov (.t 0))⟩,
    ⟨(some 23), none, (.callF 17 [(.t 22)])⟩,
    ⟨(some 3), none, (.mov (.t 23))⟩])
  (.seq (.ops [⟨(some 24), none, (.mov (.t 3))⟩,
    ⟨(some 25), none, (.mov (.t 3))⟩,
    ⟨(some 26), none, (.callF 19 [(.t 25), (.k (.int .i64 6))])⟩,
    ⟨(some 27), none, (.callF 18 [(.t 24), (.t 26)])⟩,
    ⟨(some 28), none, (.mov (.t 3))⟩,
    ⟨(some 29), none, (.callF 20 [(.t 28), (.k (.int .i64 1)), (.k (.int .i64 4))])⟩,
    ⟨(some 4), none, (.mov (.t 27))⟩,
    ⟨(some 5), none, (.mov (.t 29))⟩])
  (.seq (.ops [⟨(some 30), none, (.mov (.t 3))⟩,
    ⟨(some 31), none, (.mov (.t 5))⟩,
    ⟨(some 32), none, (.callF 21 [(.t 30), (.k (.int .i64 10)), (.t 31)])⟩,
    ⟨(some 33), none, (.mov (.t 3))⟩,
    ⟨(some 34), none, (.mov (.t 5))⟩,
    ⟨(some 35), none, (.bin .add (.t 34) (.k (.int .i64 1)))⟩,
    ⟨(some 36), none, (.callF 19 [(.t 33), (.t 35)])⟩,
    ⟨(some 6), none, (.mov (.t 32))⟩,
    ⟨(some 7), none, (.mov (.t 36))⟩])
  (.seq (.ops [⟨(some 38), none, (.mov (.t 4))⟩,
    ⟨(some 39), none, (.mov (.t 6))⟩,
    ⟨(some 40), none, (.mov (.t 5))⟩,
    ⟨(some 41), none, (.mov (.t 7))⟩,
    ⟨(some 42), none, (.callF 22 [(.t 38), (.t 39), (.t 40), (.t 41)])⟩,
    ⟨(some 37), none, (.mov (.t 42))⟩,
    ⟨(some 43), none, (.ext 0 (.t 37))⟩,
    ⟨(some 44), none, (.ext 1 (.t 37))⟩,
    ⟨(some 45), none, (.ext 2 (.t 37))⟩,
    ⟨(some 8), none, (.mov (.t 43))⟩,
    ⟨(some 9), none, (.mov (.t 44))⟩,
    ⟨(some 10), none, (.mov (.t 45))⟩])
  (.seq (.ops [⟨(some 47), none, (.mov (.t 4))⟩,
    ⟨(some 48), none, (.mov (.t 6))⟩,
    ⟨(some 49), none, (.mov (.t 5))⟩,
    ⟨(some 50), none, (.mov (.t 7))⟩,
    ⟨(some 51), none, (.bin .sub (.t 50) (.k (.int .i64 1)))⟩,
    ⟨(some 52), none, (.mxi true (.k (.int .i64 0)) (.t 51))⟩,
    ⟨(some 53), none, (.callF 22 [(.t 47), (.t 48), (.t 49), (.t 52)])⟩,
    ⟨(some 46), none, (.mov (.t 53))⟩,
    ⟨(some 54), none, (.ext 0 (.t 46))⟩,
    ⟨(some 55), none, (.ext 1 (.t 46))⟩,
    ⟨(some 56), none, (.ext 2 (.t 46))⟩,
    ⟨(some 11), none, (.mov (.t 54))⟩,
    ⟨(some 12), none, (.mov (.t 55))⟩,
    ⟨(some 13), none, (.mov (.t 56))⟩])
  (.seq (.seq (.ops [⟨(some 57), none, (.mov (.t 10))⟩,
    ⟨(some 58), none, (.bin .neq (.t 57) (.k (.int .i64 0)))⟩,
    ⟨(some 59), none, (.mov (.t 58))⟩,
    ⟨(some 60), (some (59, true)), (.mov (.t 10))⟩,
    ⟨(some 61), (some (59, true)), (.bin .neq (.t 60) (.k (.int .i64 7)))⟩,
    ⟨(some 62), none, (.pick (.t 59) (.t 61) (.k (.bool false)))⟩,
    ⟨(some 63), none, (.mov (.t 62))⟩,
    ⟨(some 64), (some (63, false)), (.mov (.t 13))⟩,
    ⟨(some 65), (some (63, false)), (.bin .neq (.t 64) (.k (.int .i64 0)))⟩,
    ⟨(some 66), (some (63, false)), (.mov (.t 65))⟩,
    ⟨(some 67), (some (66, true)), (.mov (.t 13))⟩,
    ⟨(some 68), (some (66, true)), (.bin .neq (.t 67) (.k (.int .i64 7)))⟩,
    ⟨(some 69), (some (63, false)), (.pick (.t 66) (.t 68) (.k (.bool false)))⟩,
    ⟨(some 70), none, (.pick (.t 63) (.k (.bool true)) (.t 69))⟩,
    ⟨(some 71), none, (.mov (.t 70))⟩,
    ⟨(some 72), (some (71, false)), (.mov (.t 10))⟩,
    ⟨(some 73), (some (71, false)), (.bin .eql (.t 72) (.k (.int .i64 0)))⟩,
    ⟨(some 74), (some (71, false)), (.mov (.t 73))⟩,
    ⟨(some 75), (some (74, true)), (.mov (.t 13))⟩,
    ⟨(some 76), (some (74, true)), (.bin .neq (.t 75) (.k (.int .i64 0)))⟩,
    ⟨(some 77), (some (74, true)), (.mov (.t 76))⟩,
    ⟨(some 78), (some (77, false)), (.mov (.t 12))⟩,
    ⟨(some 79), (some (77, false)), (.mov (.t 9))⟩,
    ⟨(some 80), (some (77, false)), (.bin .gtr (.t 78) (.t 79))⟩,
    ⟨(some 81), (some (74, true)), (.pick (.t 77) (.k (.bool true)) (.t 80))⟩,
    ⟨(some 82), (some (74, true)), (.mov (.t 81))⟩,
    ⟨(some 83), (some (82, false)), (.mov (.t 8))⟩,
    ⟨(some 84), (some (82, false)), (.len false (.t 83))⟩,
    ⟨(some 85), (some (82, false)), (.mov (.t 5))⟩,
    ⟨(some 86), (some (82, false)), (.bin .neq (.t 84) (.t 85))⟩,
    ⟨(some 87), (some (74, true)), (.pick (.t 82) (.k (.bool true)) (.t 86))⟩,
    ⟨(some 88), (some (71, false)), (.pick (.t 74) (.t 87) (.k (.bool false)))⟩,
    ⟨(some 89), none, (.pick (.t 71) (.k (.bool true)) (.t 88))⟩])
  (.cnd (.t 89)
    (.seq (.ops [⟨(some 2), none, (.mov (.k (.bool false)))⟩])
    .ret)
    .skip))
  (.seq (.seq (.ops [⟨(some 90), none, (.mov (.t 10))⟩,
    ⟨(some 91), none, (.bin .eql (.t 90) (.k (.int .i64 0)))⟩])
  (.cnd (.t 91)
    (.seq (.seq (.ops [⟨(some 14), none, (.mov (.k (.int .i64 0)))⟩])
    (.blk 0 (.loop (.seq (.seq (.ops [⟨(some 92), none, (.mov (.t 14))⟩,
          ⟨(some 93), none, (.mov (.t 5))⟩,
          ⟨(some 94), none, (.bin .lss (.t 92) (.t 93))⟩])
        (.cnd (.t 94)
          .skip
          (.exit 0)))
        (.seq (.blk 1 (.seq (.ops [⟨(some 97), none, (.mov (.t 8))⟩,
            ⟨(some 98), none, (.mov (.t 14))⟩,
            ⟨(some 99), none, (.ixA 1 (.t 97) (.t 98))⟩,
            ⟨(some 100), none, (.ld 1 false (.t 99))⟩,
            ⟨(some 101), none, (.bin .lss (.t 100) (.k (.int .i64 0)))⟩,
            ⟨(some 102), none, (.mov (.t 101))⟩,
            ⟨(some 103), (some (102, false)), (.mov (.t 8))⟩,
            ⟨(some 104), (some (102, false)), (.mov (.t 14))⟩,
            ⟨(some 105), (some (102, false)), (.ixA 1 (.t 103) (.t 104))⟩,
            ⟨(some 106), (some (102, false)), (.ld 1 false (.t 105))⟩,
            ⟨(some 107), (some (102, false)), (.mov (.t 6))⟩,
            ⟨(some 108), (some (102, false)), (.len false (.t 107))⟩,
            ⟨(some 109), (some (102, false)), (.bin .geq (.t 106) (.t 108))⟩,
            ⟨(some 110), none, (.pick (.t 102) (.k (.bool true)) (.t 109))⟩])
          (.cnd (.t 110)
            (.seq (.ops [⟨(some 2), none, (.mov (.k (.bool false)))⟩])
            .ret)
            .skip)))
        (.ops [⟨(some 95), none, (.mov (.t 14))⟩,
          ⟨(some 96), none, (.bin .add (.t 95) (.k (.int .i64 1)))⟩,
          ⟨(some 14), none, (.mov (.t 96))⟩]))))))
    (.seq (.ops [⟨(some 112), none, (.mov (.t 4))⟩,
      ⟨(some 113), none, (.mov (.t 6))⟩,
      ⟨(some 114), none, (.mov (.t 8))⟩,
      ⟨(some 115), none, (.mov (.t 7))⟩,
      ⟨(some 116), none, (.callF 28 [(.t 112), (.t 113), (.t 114), (.t 115)])⟩,
      ⟨(some 111), none, (.mov (.t 116))⟩,
      ⟨(some 117), none, (.ext 0 (.t 111))⟩,
      ⟨(some 118), none, (.ext 1 (.t 111))⟩,
      ⟨(some 15), none, (.mov (.t 117))⟩,
      ⟨(some 16), none, (.mov (.t 118))⟩])
    (.seq (.ops [⟨(some 119), none, (.mov (.t 16))⟩,
      ⟨(some 120), none, (.not (.t 119))⟩,
      ⟨(some 121), none, (.mov (.t 120))⟩,
      ⟨(some 122), (some (121, false)), (.mov (.t 15))⟩,
      ⟨(some 123), (some (121, false)), (.mov (.t 9))⟩,
      ⟨(some 124), (some (121, false)), (.bin .neq (.t 122) (.t 123))⟩,
      ⟨(some 125), none, (.pick (.t 121) (.k (.bool true)) (.t 124))⟩])
    (.cnd (.t 125)
      (.seq (.ops [⟨(some 2), none, (.mov (.k (.bool false)))⟩])
      .ret)
      .skip))))
    .skip))
  (.seq (.seq (.ops [⟨(some 17), none, (.mov (.k (.int .i64 0)))⟩])
  (.blk 2 (.loop (.seq (.seq (.ops [⟨(some 126), none, (.mov (.t 17))⟩,
        ⟨(some 127), none, (.bin .lss (.t 126) (.k (.int .i64 20)))⟩])
      (.cnd (.t 127)
        .skip
        (.exit 2)))
      (.seq (.blk 3 (.seq (.ops [⟨(some 18), none, (.nil 1 18)⟩])
        (.seq (.seq (.ops [⟨(some 19), none, (.mov (.k (.int .i64 0)))⟩])
        (.blk 4 (.loop (.seq (.seq (.ops [⟨(some 130), none, (.mov (.t 19))⟩,
              ⟨(some 131), none, (.mov (.t 5))⟩,
              ⟨(some 132), none, (.bin .lss (.t 130) (.t 131))⟩])
            (.cnd (.t 132)
              .skip
              (.exit 4)))
            (.seq (.blk 5 (.ops [⟨(some 135), none, (.mov (.t 18))⟩,
                ⟨(some 136), none, (.mov (.t 3))⟩,
                ⟨(some 137), none, (.mov (.t 6))⟩,
                ⟨(some 138), none, (.len false (.t 137))⟩,
                ⟨(some 139), none, (.callF 19 [(.t 136), (.t 138)])⟩,
                ⟨(some 140), none, (.bsl 1 [[(.int .i64 0)]] [(0, (.t 139))])⟩,
                ⟨(some 141), none, (.app 1 8 (.t 135) (.t 140) 18)⟩,
                ⟨(some 18), none, (.mov (.t 141))⟩]))
            (.ops [⟨(some 133), none, (.mov (.t 19))⟩,
              ⟨(some 134), none, (.bin .add (.t 133) (.k (.int .i64 1)))⟩,
              ⟨(some 19), none, (.mov (.t 134))⟩]))))))
        (.seq (.ops [⟨(some 143), none, (.mov (.t 4))⟩,
          ⟨(some 144), none, (.mov (.t 6))⟩,
          ⟨(some 145), none, (.mov (.t 18))⟩,
          ⟨(some 146), none, (.mov (.t 7))⟩,
          ⟨(some 147), none, (.callF 28 [(.t 143), (.t 144), (.t 145), (.t 146)])⟩,
          ⟨(some 142), none, (.mov (.t 147))⟩,
          ⟨(some 148), none, (.ext 0 (.t 142))⟩,
          ⟨(some 149), none, (.ext 1 (.t 142))⟩,
          ⟨(some 20), none, (.mov (.t 148))⟩,
          ⟨(some 21), none, (.mov (.t 149))⟩])
        (.seq (.ops [⟨(some 150), none, (.mov (.t 21))⟩,
          ⟨(some 151), none, (.mov (.t 150))⟩,
          ⟨(some 152), (some (151, true)), (.mov (.t 10))⟩,
          ⟨(some 153), (some (151, true)), (.bin .neq (.t 152) (.k (.int .i64 0)))⟩,
          ⟨(some 154), (some (151, true)), (.mov (.t 153))⟩,
          ⟨(some 155), (some (154, false)), (.mov (.t 20))⟩,
          ⟨(some 156), (some (154, false)), (.mov (.t 9))⟩,
          ⟨(some 157), (some (154, false)), (.bin .lss (.t 155) (.t 156))⟩,
          ⟨(some 158), (some (151, true)), (.pick (.t 154) (.k (.bool true)) (.t 157))⟩,
          ⟨(some 159), none, (.pick (.t 151) (.t 158) (.k (.bool false)))⟩])
        (.cnd (.t 159)
          (.seq (.ops [⟨(some 2), none, (.mov (.k (.bool false)))⟩])
          .ret)
          .skip))))))
      (.ops [⟨(some 128), none, (.mov (.t 17))⟩,
        ⟨(some 129), none, (.bin .add (.t 128) (.k (.int .i64 1)))⟩,
        ⟨(some 17), none, (.mov (.t 129))⟩]))))))
  (.seq (.ops [⟨(some 160), none, (.callF 16 [])⟩,
    ⟨(some 2), none, (.mov (.t 160))⟩])
  .ret))))))))))⟩
def hint4 (P : Program) : Hint := { site := [(141, 18)], nils := [(18, 1)], frz := [], wr := [] }

theorem boxOf_s (l : List Int) (hl : l.length < 2 ^ 62) : RawC Try.prog 17 [.slc 1 (iR l) .non] (sg []) (SR (fun (x : Nat × Int) v => v = .ref 6 x.1 0) (fun x => [(6, (x.1, .row [.int .u64 x.2]))])) :=
  (boxOf_c l hl).mono fun _ _ ⟨g, w, h1, h2⟩ => ⟨(g, w), h1, h2, trivial⟩
theorem seatMenu_c (nums : List Int) (hn : nums.length < 2 ^ 62) : Fn0 Try.prog 4 [.slc 1 (iR nums) .non] (fun v => v = .bool true) := by
  refine RawC.walk (H := hint4 Try.prog) ir4 Try.func4 rfl rfl rfl ?_
  unfold ir4
  repeat' (first
    | with_reducible (first | refine Rd.p ?_ | refine zE ?_ | refine zE0 ?_)
    | with_reducible (first | refine zI fun y hy => ?_ | refine zL ?_ | refine zS ?_ | refine zA fun _ => ?_ | refine zV ?_ | refine zC ?_ | refine zG ?_ | refine zU ?_ | refine zG0 ?_ | refine zU0 ?_ | refine zF ?_)
    | ((with_reducible refine acall_id ?_); refine ACall.liftS (boxOf_s nums hn) [] (some 6) rfl rfl rfl trivial (fun _ => rfl) ?_; rintro ⟨g, w⟩ _ rfl)
    | ((with_reducible refine acall_id ?_); refine ACall.box (upp_c _ _ 6 (by omega) (by omega)) rfl rfl rfl ?_; rintro _ _ ⟨n, rfl, hn1, hn2⟩)
    | ((with_reducible refine acall_id ?_); refine ACall.box (guestsOf_c _ _ _ (by omega)) rfl rfl rfl ?_; rintro _ _ ⟨gs, rfl, hgs, hgl⟩)
    | ((with_reducible refine acall_id ?_); refine ACall.box (any_c _ _ 1 4 (by omega) (by omega) (by omega) (by omega)) rfl rfl rfl ?_; rintro _ _ ⟨turns, rfl, ht1, ht2⟩)
    | ((with_reducible refine acall_id ?_); refine ACall.box (dishesOf_c _ _ _ _ (by omega) (by omega)) rfl rfl rfl ?_; rintro _ _ ⟨ds, rfl, hds, hd1, hd2⟩)
    | ((with_reducible refine acall_id ?_); refine ACall.box (upp_c _ _ (turns + 1) (by omega) (by omega)) rfl rfl rfl ?_; rintro _ _ ⟨need, rfl, hq1, hq2⟩)
    | with_reducible (first | refine zX ?_ | refine zD fun _ => ?_ | refine zD0 ?_ | refine zN ?_ | refine zF0 ?_ | refine zX0 ?_ | refine z1 ?_ | refine z2 ?_ | refine z3 ?_ | refine z4 ?_ | refine z5 ?_ | refine z6 ?_ | refine z7 ?_ | refine z8 ?_ | refine y1 ?_ | refine y2 ?_ | refine y3 ?_ | refine y4 ?_ | refine y5 ?_ | refine y6 ?_ | refine y7 ?_ | refine y8 ?_ | refine Rt.p (fun _ => ?_) fun _ => ?_)
    | ((with_reducible apply w_ixM); (focus exact rfl); (focus exact rfl); case' hk => intro y hy) | ((with_reducible (first | apply w_val | apply q_ends)); (focus exact rfl)))
  have hg0 := (madeG_ok hgs).1
  have hsz : ∀ g ∈ gs, g.name.size ≤ 1000 := fun g hg => by have := (madeG_ok hgs).2 g hg; omega
  have hkn : knownE gs = 0 := by rw [knownE, if_neg (by omega)]; exact hg0
  have hok0 := dsErr_ok hds
  have hok : dsOK ds := dsErr_0 hok0
  have ht4 : turns ≤ 4 := by omega
  have hM := Menu_c gs ds turns need (by omega) hsz (by omega)
  have hM' := Menu_c gs ds turns (max 0 (need - 1)) (by omega) hsz (by omega)
  have hfed : ∀ m : List Int, (m.length : Int) = turns → (∀ i ∈ m, 0 ≤ i ∧ i < (ds.length : Int)) → (fedP gs ds m need).2 = true → m ∈ menusK ds turns.toNat [] ∧ enoughB gs ds m need = true ∧ (fedP gs ds m need).1 = costM ds m := by
    intro m hl hm hf
    rw [fedP] at hf ⊢
    split at hf
    · rename_i h
      rw [if_pos h]
      have := menusK_of (ds := ds) (k := turns.toNat) (b := []) (s := m) (by omega) hm h.1
      exact ⟨by simpa using this, h.2, rfl⟩
    · cases hf
  have hs' := menuP_spec (need := max 0 (need - 1)) hkn hd2 hok0 ⟨ht1, ht4⟩ (by omega)
  rcases menuP_spec (need := need) hkn hd2 hok0 ⟨ht1, ht4⟩ (by omega) with ⟨hm, hno⟩ | ⟨m, hm, hmem, hen, hmin⟩
  · rw [hm] at hM; dsimp only [optV] at hM
    have hE : ∀ m : List Int, (m.length : Int) = turns → (∀ i ∈ m, 0 ≤ i ∧ i < (ds.length : Int)) → (fedP gs ds m need).2 = false := by
      intro m h1 h2
      cases hf : (fedP gs ds m need).2 with
      | false => rfl
      | true => have := hfed m h1 h2 hf; rw [hno m this.1] at this; cases this.2.1
    rcases hs' with ⟨hm', _⟩ | ⟨m', hm', _⟩
    · rw [hm'] at hM'; dsimp only [optV] at hM'
      repeat' (first
        | with_reducible (first | refine Rd.p ?_ | refine zE ?_ | refine zE0 ?_)
        | with_reducible (first | refine zI fun y hy => ?_ | refine zL ?_ | refine zS ?_ | refine zA fun _ => ?_ | refine zV ?_ | refine zC ?_ | refine zG ?_ | refine zU ?_ | refine zG0 ?_ | refine zU0 ?_ | refine zF ?_)
        | ((with_reducible refine acall_id ?_); refine ACall.val hM rfl rfl ?_)
        | ((with_reducible refine acall_id ?_); refine ACall.val hM' rfl rfl ?_)
        | with_reducible (first | refine zX ?_ | refine zD fun _ => ?_ | refine zD0 ?_ | refine zN ?_ | refine zF0 ?_ | refine zX0 ?_ | refine z1 ?_ | refine z2 ?_ | refine z3 ?_ | refine z4 ?_ | refine z5 ?_ | refine z6 ?_ | refine z7 ?_ | refine z8 ?_ | refine y1 ?_ | refine y2 ?_ | refine y3 ?_ | refine y4 ?_ | refine y5 ?_ | refine y6 ?_ | refine y7 ?_ | refine y8 ?_ | refine Rt.p (fun _ => ?_) fun _ => ?_)
        | ((with_reducible apply w_ixM); (focus exact rfl); (focus exact rfl); case' hk => intro y hy) | ((with_reducible (first | apply w_val | apply q_ends)); (focus exact rfl)))
      refine w_loopK [3, 4, 5, 6, 7, 9, 10] [] (fun x : Nat × Int => x.1 ≤ 20) (fun x => 20 - x.1) (fun x => [(17, .int .i64 x.1)]) (fun x => [(23, (g, .row [.int .u64 x.2]))]) (0, _) (by dsimp only; omega) ⟨rfl, trivial⟩ ⟨rfl, trivial⟩ ?_
      rintro ⟨k, w⟩ hk e σ
      dsimp only at hk ⊢
      by_cases hk2 : k < 20
      case neg =>
        repeat' (first
          | with_reducible (first | refine Rd.p ?_ | refine zE ?_ | refine zE0 ?_)
          | with_reducible (first | refine zI fun y hy => ?_ | refine zL ?_ | refine zS ?_ | refine zA fun _ => ?_ | refine zV ?_ | refine zC ?_ | refine zG ?_ | refine zU ?_ | refine zG0 ?_ | refine zU0 ?_ | refine zF ?_)
          | ((with_reducible refine acall_id ?_); refine ACall.val awake_c rfl rfl ?_)
          | with_reducible (first | refine zX ?_ | refine zD fun _ => ?_ | refine zD0 ?_ | refine zN ?_ | refine zF0 ?_ | refine zX0 ?_ | refine z1 ?_ | refine z2 ?_ | refine z3 ?_ | refine z4 ?_ | refine z5 ?_ | refine z6 ?_ | refine z7 ?_ | refine z8 ?_ | refine y1 ?_ | refine y2 ?_ | refine y3 ?_ | refine y4 ?_ | refine y5 ?_ | refine y6 ?_ | refine y7 ?_ | refine y8 ?_ | refine Rt.p (fun _ => ?_) fun _ => ?_)
          | ((with_reducible apply w_ixM); (focus exact rfl); (focus exact rfl); case' hk => intro y hy) | ((with_reducible (first | apply w_val | apply q_ends)); (focus exact rfl)))
        rfl
      repeat' (first
        | with_reducible (first | refine Rd.p ?_ | refine zE ?_ | refine zE0 ?_)
        | with_reducible (first | refine zI fun y hy => ?_ | refine zL ?_ | refine zS ?_ | refine zA fun _ => ?_ | refine zV ?_ | refine zC ?_ | refine zG ?_ | refine zU ?_ | refine zG0 ?_ | refine zU0 ?_ | refine zF ?_)
        | with_reducible (first | refine zX ?_ | refine zD fun _ => ?_ | refine zD0 ?_ | refine zN ?_ | refine zF0 ?_ | refine zX0 ?_ | refine z1 ?_ | refine z2 ?_ | refine z3 ?_ | refine z4 ?_ | refine z5 ?_ | refine z6 ?_ | refine z7 ?_ | refine z8 ?_ | refine y1 ?_ | refine y2 ?_ | refine y3 ?_ | refine y4 ?_ | refine y5 ?_ | refine y6 ?_ | refine y7 ?_ | refine y8 ?_ | refine Rt.p (fun _ => ?_) fun _ => ?_)
        | ((with_reducible apply w_ixM); (focus exact rfl); (focus exact rfl); case' hk => intro y hy) | ((with_reducible (first | apply w_val | apply q_ends)); (focus exact rfl)))
      rename_i g18
      refine w_loopK [3, 4, 5, 6, 7, 9, 10, 17] [] (fun x : List Int × Nat × Int => (x.1.length : Int) ≤ turns ∧ ∀ i ∈ x.1, 0 ≤ i ∧ i < (ds.length : Int)) (fun x => 4 - x.1.length) (fun x => [(19, .int .i64 x.1.length), (18, .slc 1 (iR x.1) (.own 18 x.2.1))]) (fun x => [(18, (x.2.1, .row [])), (23, (g, .row [.int .u64 x.2.2]))]) ([], g18, w) ⟨by simp; omega, (fun i hi => by cases hi)⟩ ⟨rfl, rfl, trivial⟩ ⟨rfl, rfl, trivial⟩ ?_
      rintro ⟨oth, g18, w⟩ ⟨ho1, ho2⟩ e σ
      dsimp only at ho1 ho2 ⊢
      by_cases ho3 : (oth.length : Int) < turns
      · repeat' (first
          | with_reducible (first | refine Rd.p ?_ | refine zE ?_ | refine zE0 ?_)
          | with_reducible (first | refine zI fun y hy => ?_ | refine zL ?_ | refine zS ?_ | refine zA fun _ => ?_ | refine zV ?_ | refine zC ?_ | refine zG ?_ | refine zU ?_ | refine zG0 ?_ | refine zU0 ?_ | refine zF ?_)
          | ((with_reducible refine acall_id ?_); refine ACall.box (upp_c _ _ _ (by omega) (by omega)) rfl rfl rfl ?_; rintro _ _ ⟨i, rfl, hi1, hi2⟩)
          | with_reducible (first | refine zX ?_ | refine zD fun _ => ?_ | refine zD0 ?_ | refine zN ?_ | refine zF0 ?_ | refine zX0 ?_ | refine z1 ?_ | refine z2 ?_ | refine z3 ?_ | refine z4 ?_ | refine z5 ?_ | refine z6 ?_ | refine z7 ?_ | refine z8 ?_ | refine y1 ?_ | refine y2 ?_ | refine y3 ?_ | refine y4 ?_ | refine y5 ?_ | refine y6 ?_ | refine y7 ?_ | refine y8 ?_ | refine Rt.p (fun _ => ?_) fun _ => ?_)
          | ((with_reducible apply w_ixM); (focus exact rfl); (focus exact rfl); case' hk => intro y hy) | ((with_reducible (first | apply w_val | apply q_ends)); (focus exact rfl)))
        refine q_loop (oth ++ [i], _, _) ?_ ?_ (by repeat' (first | exact slots_nil | apply slots_cons | rfl | (rw [map_snoc]; rfl) | (rw [len_snoc]; rfl) | (rw [hS]; rfl) | (rw [hS, map_snoc]; rfl) | (refine int_eq ?_; (try dsimp only); omega) | (refine congrArg AV.bool ?_; simp_all; done))) (by repeat' (first | exact slots_nil | apply slots_cons | rfl | (rw [map_snoc]; rfl) | (rw [len_snoc]; rfl) | (rw [hS]; rfl) | (rw [hS, map_snoc]; rfl) | (refine int_eq ?_; (try dsimp only); omega) | (refine congrArg AV.bool ?_; simp_all; done))) (by repeat' (first | exact kept_nil | apply kept_cons | rfl)) (by repeat' (first | exact kept_nil | apply kept_cons | rfl))
        · refine ⟨by simp; omega, fun x hx => ?_⟩
          rcases List.mem_append.1 hx with hx | hx
          · exact ho2 x hx
          · simp at hx; subst hx; exact ⟨hi1, hi2⟩
        · simp; omega
      · have hfo := hfed oth (by omega) ho2
        have hfd := fed_c gs ds oth need (by omega) hg0 hsz hok (by omega) ho2
        have hE0 := hE oth (by omega) ho2
        repeat' (first
          | with_reducible (first | refine Rd.p ?_ | refine zE ?_ | refine zE0 ?_)
          | with_reducible (first | refine zI fun y hy => ?_ | refine zL ?_ | refine zS ?_ | refine zA fun _ => ?_ | refine zV ?_ | refine zC ?_ | refine zG ?_ | refine zU ?_ | refine zG0 ?_ | refine zU0 ?_ | refine zF ?_)
          | ((with_reducible refine acall_id ?_); refine ACall.val hfd rfl rfl ?_)
          | with_reducible (first | refine zX ?_ | refine zD fun _ => ?_ | refine zD0 ?_ | refine zN ?_ | refine zF0 ?_ | refine zX0 ?_ | refine z1 ?_ | refine z2 ?_ | refine z3 ?_ | refine z4 ?_ | refine z5 ?_ | refine z6 ?_ | refine z7 ?_ | refine z8 ?_ | refine y1 ?_ | refine y2 ?_ | refine y3 ?_ | refine y4 ?_ | refine y5 ?_ | refine y6 ?_ | refine y7 ?_ | refine y8 ?_ | refine Rt.p (fun _ => ?_) fun _ => ?_)
          | ((with_reducible apply w_ixM); (focus exact rfl); (focus exact rfl); case' hk => intro y hy) | ((with_reducible (first | apply w_val | apply q_ends)); (focus exact rfl)))
        all_goals first
          | exact q_loop (k + 1, _) (by dsimp only; omega) (by dsimp only; omega) (by repeat' (first | exact slots_nil | apply slots_cons | rfl | (rw [map_snoc]; rfl) | (rw [len_snoc]; rfl) | (rw [hS]; rfl) | (rw [hS, map_snoc]; rfl) | (refine int_eq ?_; (try dsimp only); omega) | (refine congrArg AV.bool ?_; simp_all; done))) (by repeat' (first | exact slots_nil | apply slots_cons | rfl | (rw [map_snoc]; rfl) | (rw [len_snoc]; rfl) | (rw [hS]; rfl) | (rw [hS, map_snoc]; rfl) | (refine int_eq ?_; (try dsimp only); omega) | (refine congrArg AV.bool ?_; simp_all; done))) (by repeat' (first | exact kept_nil | apply kept_cons | rfl)) (by repeat' (first | exact kept_nil | apply kept_cons | rfl))
          | (exfalso; omega)
          | trace_state
    · rw [hm'] at hM'; dsimp only [optV] at hM'
      repeat' (first
        | with_reducible (first | refine Rd.p ?_ | refine zE ?_ | refine zE0 ?_)
        | with_reducible (first | refine zI fun y hy => ?_ | refine zL ?_ | refine zS ?_ | refine zA fun _ => ?_ | refine zV ?_ | refine zC ?_ | refine zG ?_ | refine zU ?_ | refine zG0 ?_ | refine zU0 ?_ | refine zF ?_)
        | ((with_reducible refine acall_id ?_); refine ACall.val hM rfl rfl ?_)
        | ((with_reducible refine acall_id ?_); refine ACall.val hM' rfl rfl ?_)
        | with_reducible (first | refine zX ?_ | refine zD fun _ => ?_ | refine zD0 ?_ | refine zN ?_ | refine zF0 ?_ | refine zX0 ?_ | refine z1 ?_ | refine z2 ?_ | refine z3 ?_ | refine z4 ?_ | refine z5 ?_ | refine z6 ?_ | refine z7 ?_ | refine z8 ?_ | refine y1 ?_ | refine y2 ?_ | refine y3 ?_ | refine y4 ?_ | refine y5 ?_ | refine y6 ?_ | refine y7 ?_ | refine y8 ?_ | refine Rt.p (fun _ => ?_) fun _ => ?_)
        | ((with_reducible apply w_ixM); (focus exact rfl); (focus exact rfl); case' hk => intro y hy) | ((with_reducible (first | apply w_val | apply q_ends)); (focus exact rfl)))
      refine w_loopK [3, 4, 5, 6, 7, 9, 10] [] (fun x : Nat × Int => x.1 ≤ 20) (fun x => 20 - x.1) (fun x => [(17, .int .i64 x.1)]) (fun x => [(23, (g, .row [.int .u64 x.2]))]) (0, _) (by dsimp only; omega) ⟨rfl, trivial⟩ ⟨rfl, trivial⟩ ?_
      rintro ⟨k, w⟩ hk e σ
      dsimp only at hk ⊢
      by_cases hk2 : k < 20
      case neg =>
        repeat' (first
          | with_reducible (first | refine Rd.p ?_ | refine zE ?_ | refine zE0 ?_)
          | with_reducible (first | refine zI fun y hy => ?_ | refine zL ?_ | refine zS ?_ | refine zA fun _ => ?_ | refine zV ?_ | refine zC ?_ | refine zG ?_ | refine zU ?_ | refine zG0 ?_ | refine zU0 ?_ | refine zF ?_)
          | ((with_reducible refine acall_id ?_); refine ACall.val awake_c rfl rfl ?_)
          | with_reducible (first | refine zX ?_ | refine zD fun _ => ?_ | refine zD0 ?_ | refine zN ?_ | refine zF0 ?_ | refine zX0 ?_ | refine z1 ?_ | refine z2 ?_ | refine z3 ?_ | refine z4 ?_ | refine z5 ?_ | refine z6 ?_ | refine z7 ?_ | refine z8 ?_ | refine y1 ?_ | refine y2 ?_ | refine y3 ?_ | refine y4 ?_ | refine y5 ?_ | refine y6 ?_ | refine y7 ?_ | refine y8 ?_ | refine Rt.p (fun _ => ?_) fun _ => ?_)
          | ((with_reducible apply w_ixM); (focus exact rfl); (focus exact rfl); case' hk => intro y hy) | ((with_reducible (first | apply w_val | apply q_ends)); (focus exact rfl)))
        rfl
      repeat' (first
        | with_reducible (first | refine Rd.p ?_ | refine zE ?_ | refine zE0 ?_)
        | with_reducible (first | refine zI fun y hy => ?_ | refine zL ?_ | refine zS ?_ | refine zA fun _ => ?_ | refine zV ?_ | refine zC ?_ | refine zG ?_ | refine zU ?_ | refine zG0 ?_ | refine zU0 ?_ | refine zF ?_)
        | with_reducible (first | refine zX ?_ | refine zD fun _ => ?_ | refine zD0 ?_ | refine zN ?_ | refine zF0 ?_ | refine zX0 ?_ | refine z1 ?_ | refine z2 ?_ | refine z3 ?_ | refine z4 ?_ | refine z5 ?_ | refine z6 ?_ | refine z7 ?_ | refine z8 ?_ | refine y1 ?_ | refine y2 ?_ | refine y3 ?_ | refine y4 ?_ | refine y5 ?_ | refine y6 ?_ | refine y7 ?_ | refine y8 ?_ | refine Rt.p (fun _ => ?_) fun _ => ?_)
        | ((with_reducible apply w_ixM); (focus exact rfl); (focus exact rfl); case' hk => intro y hy) | ((with_reducible (first | apply w_val | apply q_ends)); (focus exact rfl)))
      rename_i g18
      refine w_loopK [3, 4, 5, 6, 7, 9, 10, 17] [] (fun x : List Int × Nat × Int => (x.1.length : Int) ≤ turns ∧ ∀ i ∈ x.1, 0 ≤ i ∧ i < (ds.length : Int)) (fun x => 4 - x.1.length) (fun x => [(19, .int .i64 x.1.length), (18, .slc 1 (iR x.1) (.own 18 x.2.1))]) (fun x => [(18, (x.2.1, .row [])), (23, (g, .row [.int .u64 x.2.2]))]) ([], g18, w) ⟨by simp; omega, (fun i hi => by cases hi)⟩ ⟨rfl, rfl, trivial⟩ ⟨rfl, rfl, trivial⟩ ?_
      rintro ⟨oth, g18, w⟩ ⟨ho1, ho2⟩ e σ
      dsimp only at ho1 ho2 ⊢
      by_cases ho3 : (oth.length : Int) < turns
      · repeat' (first
          | with_reducible (first | refine Rd.p ?_ | refine zE ?_ | refine zE0 ?_)
          | with_reducible (first | refine zI fun y hy => ?_ | refine zL ?_ | refine zS ?_ | refine zA fun _ => ?_ | refine zV ?_ | refine zC ?_ | refine zG ?_ | refine zU ?_ | refine zG0 ?_ | refine zU0 ?_ | refine zF ?_)
          | ((with_reducible refine acall_id ?_); refine ACall.box (upp_c _ _ _ (by omega) (by omega)) rfl rfl rfl ?_; rintro _ _ ⟨i, rfl, hi1, hi2⟩)
          | with_reducible (first | refine zX ?_ | refine zD fun _ => ?_ | refine zD0 ?_ | refine zN ?_ | refine zF0 ?_ | refine zX0 ?_ | refine z1 ?_ | refine z2 ?_ | refine z3 ?_ | refine z4 ?_ | refine z5 ?_ | refine z6 ?_ | refine z7 ?_ | refine z8 ?_ | refine y1 ?_ | refine y2 ?_ | refine y3 ?_ | refine y4 ?_ | refine y5 ?_ | refine y6 ?_ | refine y7 ?_ | refine y8 ?_ | refine Rt.p (fun _ => ?_) fun _ => ?_)
          | ((with_reducible apply w_ixM); (focus exact rfl); (focus exact rfl); case' hk => intro y hy) | ((with_reducible (first | apply w_val | apply q_ends)); (focus exact rfl)))
        refine q_loop (oth ++ [i], _, _) ?_ ?_ (by repeat' (first | exact slots_nil | apply slots_cons | rfl | (rw [map_snoc]; rfl) | (rw [len_snoc]; rfl) | (rw [hS]; rfl) | (rw [hS, map_snoc]; rfl) | (refine int_eq ?_; (try dsimp only); omega) | (refine congrArg AV.bool ?_; simp_all; done))) (by repeat' (first | exact slots_nil | apply slots_cons | rfl | (rw [map_snoc]; rfl) | (rw [len_snoc]; rfl) | (rw [hS]; rfl) | (rw [hS, map_snoc]; rfl) | (refine int_eq ?_; (try dsimp only); omega) | (refine congrArg AV.bool ?_; simp_all; done))) (by repeat' (first | exact kept_nil | apply kept_cons | rfl)) (by repeat' (first | exact kept_nil | apply kept_cons | rfl))
        · refine ⟨by simp; omega, fun x hx => ?_⟩
          rcases List.mem_append.1 hx with hx | hx
          · exact ho2 x hx
          · simp at hx; subst hx; exact ⟨hi1, hi2⟩
        · simp; omega
      · have hfo := hfed oth (by omega) ho2
        have hfd := fed_c gs ds oth need (by omega) hg0 hsz hok (by omega) ho2
        have hE0 := hE oth (by omega) ho2
        repeat' (first
          | with_reducible (first | refine Rd.p ?_ | refine zE ?_ | refine zE0 ?_)
          | with_reducible (first | refine zI fun y hy => ?_ | refine zL ?_ | refine zS ?_ | refine zA fun _ => ?_ | refine zV ?_ | refine zC ?_ | refine zG ?_ | refine zU ?_ | refine zG0 ?_ | refine zU0 ?_ | refine zF ?_)
          | ((with_reducible refine acall_id ?_); refine ACall.val hfd rfl rfl ?_)
          | with_reducible (first | refine zX ?_ | refine zD fun _ => ?_ | refine zD0 ?_ | refine zN ?_ | refine zF0 ?_ | refine zX0 ?_ | refine z1 ?_ | refine z2 ?_ | refine z3 ?_ | refine z4 ?_ | refine z5 ?_ | refine z6 ?_ | refine z7 ?_ | refine z8 ?_ | refine y1 ?_ | refine y2 ?_ | refine y3 ?_ | refine y4 ?_ | refine y5 ?_ | refine y6 ?_ | refine y7 ?_ | refine y8 ?_ | refine Rt.p (fun _ => ?_) fun _ => ?_)
          | ((with_reducible apply w_ixM); (focus exact rfl); (focus exact rfl); case' hk => intro y hy) | ((with_reducible (first | apply w_val | apply q_ends)); (focus exact rfl)))
        all_goals first
          | exact q_loop (k + 1, _) (by dsimp only; omega) (by dsimp only; omega) (by repeat' (first | exact slots_nil | apply slots_cons | rfl | (rw [map_snoc]; rfl) | (rw [len_snoc]; rfl) | (rw [hS]; rfl) | (rw [hS, map_snoc]; rfl) | (refine int_eq ?_; (try dsimp only); omega) | (refine congrArg AV.bool ?_; simp_all; done))) (by repeat' (first | exact slots_nil | apply slots_cons | rfl | (rw [map_snoc]; rfl) | (rw [len_snoc]; rfl) | (rw [hS]; rfl) | (rw [hS, map_snoc]; rfl) | (refine int_eq ?_; (try dsimp only); omega) | (refine congrArg AV.bool ?_; simp_all; done))) (by repeat' (first | exact kept_nil | apply kept_cons | rfl)) (by repeat' (first | exact kept_nil | apply kept_cons | rfl))
          | (exfalso; omega)
          | trace_state
  · rw [hm] at hM; dsimp only [optV] at hM
    rcases hs' with ⟨hm', hno'⟩ | ⟨m', hm', hmem', hen', hmin'⟩
    · have := enough_less (show max 0 (need - 1) ≤ need by omega) hen
      rw [hno' m hmem] at this; cases this
    rw [hm'] at hM'; dsimp only [optV] at hM'
    have hle := hmin' m hmem (enough_less (show max 0 (need - 1) ≤ need by omega) hen)
    have hE : ∀ m2 : List Int, (m2.length : Int) = turns → (∀ i ∈ m2, 0 ≤ i ∧ i < (ds.length : Int)) → (fedP gs ds m2 need).2 = true → costM ds m ≤ (fedP gs ds m2 need).1 := by
      intro m2 h1 h2 hf
      have := hfed m2 h1 h2 hf
      rw [this.2.2]; exact hmin m2 this.1 this.2.1
    have hml := menusK_mem hmem
    have hmr := hml.2 (fun i hi => by cases hi)
    have hmn : (m.length : Int) = turns := by have := hml.1; simp at this; omega
    have hfm : fedP gs ds m need = (costM ds m, true) := by
      obtain ⟨s, hs, _, ht⟩ := menusK_turns hmem
      rw [List.nil_append] at hs
      rw [fedP, if_pos ⟨by rw [hs]; exact ht, hen⟩]
    have hfmc := fed_c gs ds m need (by omega) hg0 hsz hok (by omega) hmr
    rw [hfm] at hfmc; dsimp only at hfmc
    repeat' (first
      | with_reducible (first | refine Rd.p ?_ | refine zE ?_ | refine zE0 ?_)
      | with_reducible (first | refine zI fun y hy => ?_ | refine zL ?_ | refine zS ?_ | refine zA fun _ => ?_ | refine zV ?_ | refine zC ?_ | refine zG ?_ | refine zU ?_ | refine zG0 ?_ | refine zU0 ?_ | refine zF ?_)
      | ((with_reducible refine acall_id ?_); refine ACall.val hM rfl rfl ?_)
      | ((with_reducible refine acall_id ?_); refine ACall.val hM' rfl rfl ?_)
      | with_reducible (first | refine zX ?_ | refine zD fun _ => ?_ | refine zD0 ?_ | refine zN ?_ | refine zF0 ?_ | refine zX0 ?_ | refine z1 ?_ | refine z2 ?_ | refine z3 ?_ | refine z4 ?_ | refine z5 ?_ | refine z6 ?_ | refine z7 ?_ | refine z8 ?_ | refine y1 ?_ | refine y2 ?_ | refine y3 ?_ | refine y4 ?_ | refine y5 ?_ | refine y6 ?_ | refine y7 ?_ | refine y8 ?_ | refine Rt.p (fun _ => ?_) fun _ => ?_)
      | ((with_reducible apply w_ixM); (focus exact rfl); (focus exact rfl); case' hk => intro y hy) | ((with_reducible (first | apply w_val | apply q_ends)); (focus exact rfl)))
    have hgk : ∀ k : Nat, k < m.length → 0 ≤ getI m k ∧ getI m k < (ds.length : Int) := fun k hk => by
      have : getI m k = m[k] := by simp [getI, hk]
      rw [this]; exact hmr _ (List.getElem_mem hk)
    refine w_loopK [3, 4, 5, 6, 7, 8, 9, 10] [23] (fun k : Nat => (k : Int) ≤ turns) (fun k => 4 - k) (fun k => [(14, .int .i64 k)]) (fun _ => []) 0 (by omega) ⟨rfl, trivial⟩ trivial ?_
    rintro k hk e σ
    by_cases hk2 : (k : Int) < turns
    · have hgk2 := hgk k (by omega)
      repeat' (first
        | with_reducible (first | refine Rd.p ?_ | refine zE ?_ | refine zE0 ?_)
        | with_reducible refine zGi ?_
        | with_reducible (first | refine zI fun y hy => ?_ | refine zL ?_ | refine zS ?_ | refine zA fun _ => ?_ | refine zV ?_ | refine zC ?_ | refine zG ?_ | refine zU ?_ | refine zG0 ?_ | refine zU0 ?_ | refine zF ?_)
        | with_reducible (first | refine zX ?_ | refine zD fun _ => ?_ | refine zD0 ?_ | refine zN ?_ | refine zF0 ?_ | refine zX0 ?_ | refine z1 ?_ | refine z2 ?_ | refine z3 ?_ | refine z4 ?_ | refine z5 ?_ | refine z6 ?_ | refine z7 ?_ | refine z8 ?_ | refine y1 ?_ | refine y2 ?_ | refine y3 ?_ | refine y4 ?_ | refine y5 ?_ | refine y6 ?_ | refine y7 ?_ | refine y8 ?_ | refine Rt.p (fun _ => ?_) fun _ => ?_)
        | ((with_reducible apply w_ixM); (focus exact rfl); (focus exact rfl); case' hk => intro y hy) | ((with_reducible (first | apply w_val | apply q_ends)); (focus exact rfl)))
      refine zQ (k + 1) ?_ ?_
      · omega
      · omega
    repeat' (first
      | with_reducible (first | refine Rd.p ?_ | refine zE ?_ | refine zE0 ?_)
      | with_reducible (first | refine zI fun y hy => ?_ | refine zL ?_ | refine zS ?_ | refine zA fun _ => ?_ | refine zV ?_ | refine zC ?_ | refine zG ?_ | refine zU ?_ | refine zG0 ?_ | refine zU0 ?_ | refine zF ?_)
      | ((with_reducible refine acall_id ?_); refine ACall.val hfmc rfl rfl ?_)
      | with_reducible (first | refine zX ?_ | refine zD fun _ => ?_ | refine zD0 ?_ | refine zN ?_ | refine zF0 ?_ | refine zX0 ?_ | refine z1 ?_ | refine z2 ?_ | refine z3 ?_ | refine z4 ?_ | refine z5 ?_ | refine z6 ?_ | refine z7 ?_ | refine z8 ?_ | refine y1 ?_ | refine y2 ?_ | refine y3 ?_ | refine y4 ?_ | refine y5 ?_ | refine y6 ?_ | refine y7 ?_ | refine y8 ?_ | refine Rt.p (fun _ => ?_) fun _ => ?_)
      | ((with_reducible apply w_ixM); (focus exact rfl); (focus exact rfl); case' hk => intro y hy) | ((with_reducible (first | apply w_val | apply q_ends)); (focus exact rfl)))
    refine w_loopK [3, 4, 5, 6, 7, 9, 10] [] (fun x : Nat × Int => x.1 ≤ 20) (fun x => 20 - x.1) (fun x => [(17, .int .i64 x.1)]) (fun x => [(23, (g, .row [.int .u64 x.2]))]) (0, _) (by dsimp only; omega) ⟨rfl, trivial⟩ ⟨rfl, trivial⟩ ?_
    rintro ⟨k, w⟩ hk e σ
    dsimp only at hk ⊢
    by_cases hk2 : k < 20
    case neg =>
      repeat' (first
        | with_reducible (first | refine Rd.p ?_ | refine zE ?_ | refine zE0 ?_)
        | with_reducible (first | refine zI fun y hy => ?_ | refine zL ?_ | refine zS ?_ | refine zA fun _ => ?_ | refine zV ?_ | refine zC ?_ | refine zG ?_ | refine zU ?_ | refine zG0 ?_ | refine zU0 ?_ | refine zF ?_)
        | ((with_reducible refine acall_id ?_); refine ACall.val awake_c rfl rfl ?_)
        | with_reducible (first | refine zX ?_ | refine zD fun _ => ?_ | refine zD0 ?_ | refine zN ?_ | refine zF0 ?_ | refine zX0 ?_ | refine z1 ?_ | refine z2 ?_ | refine z3 ?_ | refine z4 ?_ | refine z5 ?_ | refine z6 ?_ | refine z7 ?_ | refine z8 ?_ | refine y1 ?_ | refine y2 ?_ | refine y3 ?_ | refine y4 ?_ | refine y5 ?_ | refine y6 ?_ | refine y7 ?_ | refine y8 ?_ | refine Rt.p (fun _ => ?_) fun _ => ?_)
        | ((with_reducible apply w_ixM); (focus exact rfl); (focus exact rfl); case' hk => intro y hy) | ((with_reducible (first | apply w_val | apply q_ends)); (focus exact rfl)))
      rfl
    repeat' (first
      | with_reducible (first | refine Rd.p ?_ | refine zE ?_ | refine zE0 ?_)
      | with_reducible (first | refine zI fun y hy => ?_ | refine zL ?_ | refine zS ?_ | refine zA fun _ => ?_ | refine zV ?_ | refine zC ?_ | refine zG ?_ | refine zU ?_ | refine zG0 ?_ | refine zU0 ?_ | refine zF ?_)
      | with_reducible (first | refine zX ?_ | refine zD fun _ => ?_ | refine zD0 ?_ | refine zN ?_ | refine zF0 ?_ | refine zX0 ?_ | refine z1 ?_ | refine z2 ?_ | refine z3 ?_ | refine z4 ?_ | refine z5 ?_ | refine z6 ?_ | refine z7 ?_ | refine z8 ?_ | refine y1 ?_ | refine y2 ?_ | refine y3 ?_ | refine y4 ?_ | refine y5 ?_ | refine y6 ?_ | refine y7 ?_ | refine y8 ?_ | refine Rt.p (fun _ => ?_) fun _ => ?_)
      | ((with_reducible apply w_ixM); (focus exact rfl); (focus exact rfl); case' hk => intro y hy) | ((with_reducible (first | apply w_val | apply q_ends)); (focus exact rfl)))
    rename_i g18
    refine w_loopK [3, 4, 5, 6, 7, 9, 10, 17] [] (fun x : List Int × Nat × Int => (x.1.length : Int) ≤ turns ∧ ∀ i ∈ x.1, 0 ≤ i ∧ i < (ds.length : Int)) (fun x => 4 - x.1.length) (fun x => [(19, .int .i64 x.1.length), (18, .slc 1 (iR x.1) (.own 18 x.2.1))]) (fun x => [(18, (x.2.1, .row [])), (23, (g, .row [.int .u64 x.2.2]))]) ([], g18, w) ⟨by simp; omega, (fun i hi => by cases hi)⟩ ⟨rfl, rfl, trivial⟩ ⟨rfl, rfl, trivial⟩ ?_
    rintro ⟨oth, g18, w⟩ ⟨ho1, ho2⟩ e σ
    dsimp only at ho1 ho2 ⊢
    by_cases ho3 : (oth.length : Int) < turns
    · repeat' (first
        | with_reducible (first | refine Rd.p ?_ | refine zE ?_ | refine zE0 ?_)
        | with_reducible (first | refine zI fun y hy => ?_ | refine zL ?_ | refine zS ?_ | refine zA fun _ => ?_ | refine zV ?_ | refine zC ?_ | refine zG ?_ | refine zU ?_ | refine zG0 ?_ | refine zU0 ?_ | refine zF ?_)
        | ((with_reducible refine acall_id ?_); refine ACall.box (upp_c _ _ _ (by omega) (by omega)) rfl rfl rfl ?_; rintro _ _ ⟨i, rfl, hi1, hi2⟩)
        | with_reducible (first | refine zX ?_ | refine zD fun _ => ?_ | refine zD0 ?_ | refine zN ?_ | refine zF0 ?_ | refine zX0 ?_ | refine z1 ?_ | refine z2 ?_ | refine z3 ?_ | refine z4 ?_ | refine z5 ?_ | refine z6 ?_ | refine z7 ?_ | refine z8 ?_ | refine y1 ?_ | refine y2 ?_ | refine y3 ?_ | refine y4 ?_ | refine y5 ?_ | refine y6 ?_ | refine y7 ?_ | refine y8 ?_ | refine Rt.p (fun _ => ?_) fun _ => ?_)
        | ((with_reducible apply w_ixM); (focus exact rfl); (focus exact rfl); case' hk => intro y hy) | ((with_reducible (first | apply w_val | apply q_ends)); (focus exact rfl)))
      refine q_loop (oth ++ [i], _, _) ?_ ?_ (by repeat' (first | exact slots_nil | apply slots_cons | rfl | (rw [map_snoc]; rfl) | (rw [len_snoc]; rfl) | (rw [hS]; rfl) | (rw [hS, map_snoc]; rfl) | (refine int_eq ?_; (try dsimp only); omega) | (refine congrArg AV.bool ?_; simp_all; done))) (by repeat' (first | exact slots_nil | apply slots_cons | rfl | (rw [map_snoc]; rfl) | (rw [len_snoc]; rfl) | (rw [hS]; rfl) | (rw [hS, map_snoc]; rfl) | (refine int_eq ?_; (try dsimp only); omega) | (refine congrArg AV.bool ?_; simp_all; done))) (by repeat' (first | exact kept_nil | apply kept_cons | rfl)) (by repeat' (first | exact kept_nil | apply kept_cons | rfl))
      · refine ⟨by simp; omega, fun x hx => ?_⟩
        rcases List.mem_append.1 hx with hx | hx
        · exact ho2 x hx
        · simp at hx; subst hx; exact ⟨hi1, hi2⟩
      · simp; omega
    · have hfo := hfed oth (by omega) ho2
      have hfd := fed_c gs ds oth need (by omega) hg0 hsz hok (by omega) ho2
      have hE0 := hE oth (by omega) ho2
      repeat' (first
        | with_reducible (first | refine Rd.p ?_ | refine zE ?_ | refine zE0 ?_)
        | with_reducible (first | refine zI fun y hy => ?_ | refine zL ?_ | refine zS ?_ | refine zA fun _ => ?_ | refine zV ?_ | refine zC ?_ | refine zG ?_ | refine zU ?_ | refine zG0 ?_ | refine zU0 ?_ | refine zF ?_)
        | ((with_reducible refine acall_id ?_); refine ACall.val hfd rfl rfl ?_)
        | with_reducible (first | refine zX ?_ | refine zD fun _ => ?_ | refine zD0 ?_ | refine zN ?_ | refine zF0 ?_ | refine zX0 ?_ | refine z1 ?_ | refine z2 ?_ | refine z3 ?_ | refine z4 ?_ | refine z5 ?_ | refine z6 ?_ | refine z7 ?_ | refine z8 ?_ | refine y1 ?_ | refine y2 ?_ | refine y3 ?_ | refine y4 ?_ | refine y5 ?_ | refine y6 ?_ | refine y7 ?_ | refine y8 ?_ | refine Rt.p (fun _ => ?_) fun _ => ?_)
        | ((with_reducible apply w_ixM); (focus exact rfl); (focus exact rfl); case' hk => intro y hy) | ((with_reducible (first | apply w_val | apply q_ends)); (focus exact rfl)))
      all_goals first
        | exact q_loop (k + 1, _) (by dsimp only; omega) (by dsimp only; omega) (by repeat' (first | exact slots_nil | apply slots_cons | rfl | (rw [map_snoc]; rfl) | (rw [len_snoc]; rfl) | (rw [hS]; rfl) | (rw [hS, map_snoc]; rfl) | (refine int_eq ?_; (try dsimp only); omega) | (refine congrArg AV.bool ?_; simp_all; done))) (by repeat' (first | exact slots_nil | apply slots_cons | rfl | (rw [map_snoc]; rfl) | (rw [len_snoc]; rfl) | (rw [hS]; rfl) | (rw [hS, map_snoc]; rfl) | (refine int_eq ?_; (try dsimp only); omega) | (refine congrArg AV.bool ?_; simp_all; done))) (by repeat' (first | exact kept_nil | apply kept_cons | rfl)) (by repeat' (first | exact kept_nil | apply kept_cons | rfl))
        | (exfalso; omega)
        | (exfalso; rename_i h1 h2; have := hE0 h1; omega)
        | trace_state
end Go.Abs
