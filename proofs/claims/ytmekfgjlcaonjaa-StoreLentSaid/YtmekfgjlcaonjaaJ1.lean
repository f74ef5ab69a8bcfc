/- A part of the proofs of the laws of this seat: contracts of the functions that they reach, each proved of the program's form in Lean. No condition beyond those that each contract names. -/
import Derived.Test.YtmekfgjlcaonjaaG6
import Derived.Test.YtmekfgjlcaonjaaG5
import Derived.Test.YtmekfgjlcaonjaaG4
import Derived.Test.YtmekfgjlcaonjaaG3
import Derived.Test.YtmekfgjlcaonjaaG2
import Derived.Test.YtmekfgjlcaonjaaG1
import Derived.Test.YtmekfgjlcaonjaaD8
import Derived.Test.YtmekfgjlcaonjaaC14
import Derived.Test.YtmekfgjlcaonjaaC13
import Derived.Test.YtmekfgjlcaonjaaC12
import Derived.Test.YtmekfgjlcaonjaaC11
import Derived.Test.YtmekfgjlcaonjaaC10
import Derived.Test.YtmekfgjlcaonjaaC9
import Derived.Test.YtmekfgjlcaonjaaC8
import Derived.Test.YtmekfgjlcaonjaaC7
import Derived.Test.YtmekfgjlcaonjaaC5
import Derived.Test.YtmekfgjlcaonjaaC4
import Derived.Test.YtmekfgjlcaonjaaC2
import Derived.Test.YtmekfgjlcaonjaaC1
import Derived.Test.YtmekfgjlcaonjaaB
set_option linter.unusedVariables false
set_option linter.unusedSimpArgs false
set_option maxRecDepth 20000
set_option maxHeartbeats 2000000
namespace Go.Abs
open Go.Proofs
/-- aloeswood/aloeswoodlaw09.StoreLent -/
def ir14 : IFn :=
  ⟨126, [(2, none)], (.seq (.ops [⟨(some 2), none, (.mov (.k (.bool false)))⟩])
  (.seq (.ops [⟨(some 18), none, (.mov (.t 0))⟩,
    ⟨(some 19), none, (.callF 17 [(.t 18)])⟩,
    ⟨(some 3), none, (.mov (.t 19))⟩])
  (.seq (.ops [⟨(some 20), none, (.mov (.t 3))⟩,
    ⟨(some 21), none, (.callF 65 [(.t 20), (.k (.int .i64 9))])⟩,
    ⟨(some 4), none, (.mov (.t 21))⟩])
  (.seq (.ops [⟨(some 23), none, (.mov (.t 4))⟩,
    ⟨(some 24), none, (.callF 67 [(.t 23)])⟩,
    ⟨(some 22), none, (.mov (.t 24))⟩,
    ⟨(some 25), none, (.ext 0 (.t 22))⟩,
    ⟨(some 26), none, (.ext 1 (.t 22))⟩,
    ⟨(some 27), none, (.ext 2 (.t 22))⟩,
    ⟨(some 5), none, (.mov (.t 25))⟩,
    ⟨(some 6), none, (.mov (.t 26))⟩,
    ⟨(some 7), none, (.mov (.t 27))⟩])
  (.seq (.ops [⟨(some 28), none, (.mov (.t 3))⟩,
    ⟨(some 29), none, (.callF 20 [(.t 28), (.k (.int .i64 20))])⟩,
    ⟨(some 8), none, (.mov (.t 29))⟩])
  (.seq (.ops [⟨(some 31), none, (.mov (.t 4))⟩,
    ⟨(some 32), none, (.callF 66 [(.t 31)])⟩,
    ⟨(some 33), none, (.mov (.t 3))⟩,
    ⟨(some 34), none, (.callF 20 [(.t 33), (.k (.int .i64 3))])⟩,
    ⟨(some 35), none, (.mov (.t 8))⟩,
    ⟨(some 36), none, (.mov (.t 8))⟩,
    ⟨(some 37), none, (.mov (.t 3))⟩,
    ⟨(some 38), none, (.callF 20 [(.t 37), (.k (.int .i64 8))])⟩,
    ⟨(some 39), none, (.bin .add (.t 36) (.t 38))⟩,
    ⟨(some 40), none, (.mov (.t 3))⟩,
    ⟨(some 41), none, (.callF 20 [(.t 40), (.k (.int .i64 20))])⟩,
    ⟨(some 42), none, (.bld [(.int .i64 0), (.int .i64 0), (.int .i64 0), (.int .i64 0)] [(0, 1, (.t 34)), (1, 1, (.t 35)), (2, 1, (.t 39)), (3, 1, (.t 41))])⟩,
    ⟨(some 43), none, (.bsl 4 [[(.int .i64 0), (.int .i64 0), (.int .i64 0), (.int .i64 0)]] [(0, (.t 42))])⟩,
    ⟨(some 44), none, (.app 4 32 (.t 32) (.t 43) 44)⟩,
    ⟨(some 45), none, (.callF 67 [(.t 44)])⟩,
    ⟨(some 30), none, (.mov (.t 45))⟩,
    ⟨(some 46), none, (.ext 0 (.t 30))⟩,
    ⟨(some 47), none, (.ext 1 (.t 30))⟩,
    ⟨(some 48), none, (.ext 2 (.t 30))⟩,
    ⟨(some 9), none, (.mov (.t 46))⟩,
    ⟨(some 10), none, (.mov (.t 47))⟩,
    ⟨(some 11), none, (.mov (.t 48))⟩])
  (.seq (.seq (.ops [⟨(some 49), none, (.mov (.t 7))⟩,
    ⟨(some 50), none, (.bin .neq (.t 49) (.k (.int .i64 0)))⟩,
    ⟨(some 51), none, (.mov (.t 50))⟩,
    ⟨(some 52), (some (51, false)), (.mov (.t 11))⟩,
    ⟨(some 53), (some (51, false)), (.bin .neq (.t 52) (.k (.int .i64 0)))⟩,
    ⟨(some 54), none, (.pick (.t 51) (.k (.bool true)) (.t 53))⟩,
    ⟨(some 55), none, (.mov (.t 54))⟩,
    ⟨(some 56), (some (55, false)), (.mov (.t 10))⟩,
    ⟨(some 57), (some (55, false)), (.mov (.t 6))⟩,
    ⟨(some 58), (some (55, false)), (.bin .lss (.t 56) (.t 57))⟩,
    ⟨(some 59), none, (.pick (.t 55) (.k (.bool true)) (.t 58))⟩])
  (.cnd (.t 59)
    (.seq (.ops [⟨(some 2), none, (.mov (.k (.bool false)))⟩])
    .ret)
    .skip))
  (.seq (.ops [⟨(some 12), none, (.mov (.k (.bool false)))⟩])
  (.seq (.seq (.ops [⟨(some 13), none, (.mov (.k (.int .i64 0)))⟩])
  (.blk 0 (.loop (.seq (.seq (.ops [⟨(some 60), none, (.mov (.t 13))⟩,
        ⟨(some 61), none, (.mov (.t 4))⟩,
        ⟨(some 62), none, (.len false (.t 61))⟩,
        ⟨(some 63), none, (.bin .shl (.k (.int .i64 1)) (.t 62))⟩,
        ⟨(some 64), none, (.bin .lss (.t 60) (.t 63))⟩])
      (.cnd (.t 64)
        .skip
        (.exit 0)))
      (.seq (.blk 1 (.seq (.ops [⟨(some 68), none, (.mov (.t 4))⟩,
          ⟨(some 69), none, (.mov (.t 13))⟩,
          ⟨(some 70), none, (.callF 70 [(.t 68), (.t 69)])⟩,
          ⟨(some 67), none, (.mov (.t 70))⟩,
          ⟨(some 71), none, (.ext 0 (.t 67))⟩,
          ⟨(some 72), none, (.ext 1 (.t 67))⟩,
          ⟨(some 73), none, (.ext 2 (.t 67))⟩,
          ⟨(some 14), none, (.mov (.t 71))⟩,
          ⟨(some 15), none, (.mov (.t 72))⟩,
          ⟨(some 16), none, (.mov (.t 73))⟩])
        (.seq (.seq (.ops [⟨(some 74), none, (.mov (.t 16))⟩,
          ⟨(some 75), none, (.not (.t 74))⟩])
        (.cnd (.t 75)
          (.exit 1)
          .skip))
        (.seq (.ops [⟨(some 76), none, (.mov (.t 14))⟩,
          ⟨(some 77), none, (.mov (.t 5))⟩,
          ⟨(some 78), none, (.callF 40 [(.t 76), (.t 77)])⟩,
          ⟨(some 17), none, (.mov (.t 78))⟩])
        (.seq (.ops [⟨(some 79), none, (.mov (.t 12))⟩,
          ⟨(some 80), none, (.mov (.t 79))⟩,
          ⟨(some 81), (some (80, false)), (.mov (.t 17))⟩,
          ⟨(some 82), none, (.pick (.t 80) (.k (.bool true)) (.t 81))⟩,
          ⟨(some 12), none, (.mov (.t 82))⟩])
        (.seq (.ops [⟨(some 83), none, (.mov (.t 17))⟩,
          ⟨(some 84), none, (.mov (.t 83))⟩,
          ⟨(some 85), (some (84, true)), (.mov (.t 15))⟩,
          ⟨(some 86), (some (84, true)), (.mov (.t 6))⟩,
          ⟨(some 87), (some (84, true)), (.bin .neq (.t 85) (.t 86))⟩,
          ⟨(some 88), none, (.pick (.t 84) (.t 87) (.k (.bool false)))⟩,
          ⟨(some 89), none, (.mov (.t 88))⟩,
          ⟨(some 90), (some (89, false)), (.mov (.t 15))⟩,
          ⟨(some 91), (some (89, false)), (.mov (.t 6))⟩,
          ⟨(some 92), (some (89, false)), (.bin .gtr (.t 90) (.t 91))⟩,
          ⟨(some 93), none, (.pick (.t 89) (.k (.bool true)) (.t 92))⟩,
          ⟨(some 94), none, (.mov (.t 93))⟩,
          ⟨(some 95), (some (94, false)), (.mov (.t 15))⟩,
          ⟨(some 96), (some (94, false)), (.mov (.t 6))⟩,
          ⟨(some 97), (some (94, false)), (.bin .eql (.t 95) (.t 96))⟩,
          ⟨(some 98), (some (94, false)), (.mov (.t 97))⟩,
          ⟨(some 99), (some (98, true)), (.mov (.t 17))⟩,
          ⟨(some 100), (some (98, true)), (.not (.t 99))⟩,
          ⟨(some 101), (some (94, false)), (.pick (.t 98) (.t 100) (.k (.bool false)))⟩,
          ⟨(some 102), (some (94, false)), (.mov (.t 101))⟩,
          ⟨(some 103), (some (102, true)), (.mov (.t 14))⟩,
          ⟨(some 104), (some (102, true)), (.len false (.t 103))⟩,
          ⟨(some 105), (some (102, true)), (.mov (.t 5))⟩,
          ⟨(some 106), (some (102, true)), (.len false (.t 105))⟩,
          ⟨(some 107), (some (102, true)), (.bin .lss (.t 104) (.t 106))⟩,
          ⟨(some 108), (some (102, true)), (.mov (.t 107))⟩,
          ⟨(some 109), (some (108, false)), (.mov (.t 14))⟩,
          ⟨(some 110), (some (108, false)), (.len false (.t 109))⟩,
          ⟨(some 111), (some (108, false)), (.mov (.t 5))⟩,
          ⟨(some 112), (some (108, false)), (.len false (.t 111))⟩,
          ⟨(some 113), (some (108, false)), (.bin .eql (.t 110) (.t 112))⟩,
          ⟨(some 114), (some (108, false)), (.mov (.t 113))⟩,
          ⟨(some 115), (some (114, true)), (.mov (.t 14))⟩,
          ⟨(some 116), (some (114, true)), (.mov (.t 5))⟩,
          ⟨(some 117), (some (114, true)), (.callF 64 [(.t 115), (.t 116)])⟩,
          ⟨(some 118), (some (108, false)), (.pick (.t 114) (.t 117) (.k (.bool false)))⟩,
          ⟨(some 119), (some (102, true)), (.pick (.t 108) (.k (.bool true)) (.t 118))⟩,
          ⟨(some 120), (some (94, false)), (.pick (.t 102) (.t 119) (.k (.bool false)))⟩,
          ⟨(some 121), none, (.pick (.t 94) (.k (.bool true)) (.t 120))⟩])
        (.cnd (.t 121)
          (.seq (.ops [⟨(some 2), none, (.mov (.k (.bool false)))⟩])
          .ret)
          .skip)))))))
      (.ops [⟨(some 65), none, (.mov (.t 13))⟩,
        ⟨(some 66), none, (.bin .add (.t 65) (.k (.int .i64 1)))⟩,
        ⟨(some 13), none, (.mov (.t 66))⟩]))))))
  (.seq (.ops [⟨(some 122), none, (.mov (.t 12))⟩,
    ⟨(some 123), none, (.mov (.t 122))⟩,
    ⟨(some 124), (some (123, true)), (.callF 16 [])⟩,
    ⟨(some 125), none, (.pick (.t 123) (.t 124) (.k (.bool false)))⟩,
    ⟨(some 2), none, (.mov (.t 125))⟩])
  .ret))))))))))⟩
def hint14 (P : Program) : Hint := {}
theorem Lend0_w (l : List Lon) (hl : l.length ≤ 12) (hx : ∀ x ∈ l, lonE x = 0) : Fn0 Try.prog 67 [.slc 4 (oR l) .non] (fun v => v = .tup [.slc 1 (iR (lendV l).1) .non, .int .i64 (lendV l).2, .int .i64 0]) := by
  have hE : lendE l = 0 := by rw [lendE, if_neg (by omega)]; exact lonsE_of hx
  have h := Lend_w l (by omega)
  rw [hE] at h
  exact h
theorem lendE_made {l : List Lon} (hl : l.length ≤ 12) (hx : ∀ x ∈ l, lonE x = 0) : lendE l = 0 := by rw [lendE, if_neg (by omega)]; exact lonsE_of hx
def fndF (l : List Lon) (best : List Int) : Nat → Bool
  | 0 => false
  | n + 1 => fndF l best n || (okS [] (chT l n) && decide (bitsL n l.length = best))
theorem fndF_at {l : List Lon} {best : List Int} {k : Nat} : ∀ {n : Nat}, k < n → okS [] (chT l k) = true → bitsL k l.length = best → fndF l best n = true
  | 0, h, _, _ => by omega
  | n + 1, h, h1, h2 => by
    rw [fndF]
    by_cases e : k = n
    · subst e; rw [h1, decide_eq_true h2]; simp
    · rw [fndF_at (n := n) (by omega) h1 h2]; rfl
/-- The copy, as it may be added to. -/
theorem ownLoansO_c (l : List Lon) (hl : l.length ≤ 1000) : RawC Try.prog 66 [.slc 4 (oR l) .non] (sg []) (SR (fun (g : Nat) v => v = .slc 4 (oR l) (.own 2 g)) (fun g => [(2, (g, .row []))])) := by
  cases l with
  | nil =>
    refine RawC.walk (H := hint66 Try.prog) ir66 Try.func66 rfl rfl rfl ?_
    unfold ir66
    repeat' (first
      | with_reducible (first | refine Rd.p ?_ | refine w_alt ?_ ?_ | refine zO ?_ | refine zE0 ?_)
      | with_reducible (first | refine zI fun y hy => ?_ | refine zL ?_ | refine zS ?_ | refine zA fun _ => ?_ | refine zV ?_ | refine zC ?_ | refine zG ?_ | refine zU ?_ | refine zG0 ?_ | refine zU0 ?_ | refine zF ?_)
      | with_reducible (first | refine zX ?_ | refine zD fun _ => ?_ | refine zD0 ?_ | refine zN ?_ | refine zF0 ?_ | refine zX0 ?_ | refine z1 ?_ | refine z2 ?_ | refine z3 ?_ | refine z4 ?_ | refine z5 ?_ | refine z6 ?_ | refine z7 ?_ | refine z8 ?_ | refine y1 ?_ | refine y2 ?_ | refine y3 ?_ | refine y4 ?_ | refine y5 ?_ | refine y6 ?_ | refine y7 ?_ | refine y8 ?_ | refine Rt.p (fun _ => ?_) fun _ => ?_)
      | ((with_reducible apply w_ixM); (focus exact rfl); (focus exact rfl); case' hk => intro y hy) | ((with_reducible (first | apply w_val | apply q_ends)); (focus exact rfl)))
    exact ⟨_, rfl, rfl, trivial⟩
  | cons y l =>
    refine RawC.walk (H := hint66 Try.prog) ir66 Try.func66 rfl rfl rfl ?_
    unfold ir66
    repeat' (first
      | with_reducible (first | refine Rd.p ?_ | refine w_alt ?_ ?_ | refine zO ?_ | refine zE0 ?_)
      | with_reducible (first | refine zI fun y hy => ?_ | refine zL ?_ | refine zS ?_ | refine zA fun _ => ?_ | refine zV ?_ | refine zC ?_ | refine zG ?_ | refine zU ?_ | refine zG0 ?_ | refine zU0 ?_ | refine zF ?_)
      | with_reducible (first | refine zX ?_ | refine zD fun _ => ?_ | refine zD0 ?_ | refine zN ?_ | refine zF0 ?_ | refine zX0 ?_ | refine z1 ?_ | refine z2 ?_ | refine z3 ?_ | refine z4 ?_ | refine z5 ?_ | refine z6 ?_ | refine z7 ?_ | refine z8 ?_ | refine y1 ?_ | refine y2 ?_ | refine y3 ?_ | refine y4 ?_ | refine y5 ?_ | refine y6 ?_ | refine y7 ?_ | refine y8 ?_ | refine Rt.p (fun _ => ?_) fun _ => ?_)
      | ((with_reducible apply w_ixM); (focus exact rfl); (focus exact rfl); case' hk => intro y hy) | ((with_reducible (first | apply w_val | apply q_ends)); (focus exact rfl)))
    exact ⟨_, rfl, rfl, trivial⟩
theorem Lend1_w (l : List Lon) (y : Lon) (hl : l.length < 12) (hx : ∀ x ∈ l, lonE x = 0) (hy : lonE y = 0) : Fn0 Try.prog 67 [.slc 4 ((oR l).append [[.int .i64 y.th, .int .i64 y.fr, .int .i64 y.to, .int .i64 y.wo]]) .non] (fun v => v = .tup [.slc 1 (iR (lendV (l ++ [y])).1) .non, .int .i64 (lendV (l ++ [y])).2, .int .i64 0]) := by
  have h := Lend0_w (l ++ [y]) (by simp; omega) (fun x hxx => by
    rcases List.mem_append.1 hxx with h | h
    · exact hx x h
    · rw [List.mem_singleton] at h; rw [h]; exact hy)
  rw [show oR (l ++ [y]) = (oR l).append [[.int .i64 y.th, .int .i64 y.fr, .int .i64 y.to, .int .i64 y.wo]] from List.map_append] at h
  exact h
theorem lent_c (nums : List Int) (hn : nums.length < 2 ^ 62) : Fn0 Try.prog 14 [.slc 1 (iR nums) .non] (fun v => v = .bool true) := by
  refine RawC.walk (H := hint14 Try.prog) ir14 Try.func14 rfl rfl rfl ?_
  unfold ir14
  repeat' (first
    | with_reducible (first | refine Rd.p ?_ | refine w_alt ?_ ?_ | refine zE ?_ | refine zE0 ?_)
    | with_reducible (first | refine zI fun y hy => ?_ | refine zL ?_ | refine zS ?_ | refine zA fun _ => ?_ | refine zV ?_ | refine zC ?_ | refine zG ?_ | refine zU ?_ | refine zG0 ?_ | refine zU0 ?_ | refine zF ?_)
    | ((with_reducible refine acall_id ?_); refine ACall.liftS (boxOf_s nums hn) [] (some 6) rfl rfl rfl trivial (fun _ => rfl) ?_; rintro ⟨gb, w⟩ _ rfl)
    | ((with_reducible refine acall_id ?_); refine ACall.box (loansOf_c _ _ 9 (by omega)) rfl rfl rfl ?_; rintro _ _ ⟨l, rfl, hl, hx⟩)
    | with_reducible (first | refine zX ?_ | refine zD fun _ => ?_ | refine zD0 ?_ | refine zN ?_ | refine zF0 ?_ | refine zX0 ?_ | refine z1 ?_ | refine z2 ?_ | refine z3 ?_ | refine z4 ?_ | refine z5 ?_ | refine z6 ?_ | refine z7 ?_ | refine z8 ?_ | refine y1 ?_ | refine y2 ?_ | refine y3 ?_ | refine y4 ?_ | refine y5 ?_ | refine y6 ?_ | refine y7 ?_ | refine y8 ?_ | refine Rt.p (fun _ => ?_) fun _ => ?_)
    | ((with_reducible apply w_ixM); (focus exact rfl); (focus exact rfl); case' hk => intro y hy) | ((with_reducible (first | apply w_val | apply q_ends)); (focus exact rfl)))
  have hl2 : (l.length : Int) ≤ 9 := hl
  have hE := lendE_made (l := l) (by omega) hx
  have hLl : ∀ y : Lon, (l ++ [y]).length = l.length + 1 := fun y => by simp
  have hxy : ∀ y : Lon, lonE y = 0 → ∀ x ∈ l ++ [y], lonE x = 0 := fun y hy x hxx => by
    rcases List.mem_append.1 hxx with h | h
    · exact hx x h
    · rw [List.mem_singleton] at h; rw [h]; exact hy
  have hpw : (2 : Nat) ^ l.length ≤ 2 ^ 9 := Nat.pow_le_pow_right (by omega) (by omega)
  have hmore : ∀ y : Lon, lonE y = 0 → (lendV l).2 ≤ (lendV (l ++ [y])).2 := fun y hy => lendV_more hE (lendE_made (by rw [hLl]; omega) (hxy y hy))
  obtain ⟨set0, hs0, ho0, he0⟩ := lendV_some hE
  have hbest := fun set hs ho => lendV_best hE (set := set) hs ho
  have hfnd := fndF_at (best := (lendV l).1) hs0 ho0 (by rw [he0])
  have hsame : ∀ set : Nat, bitsL set l.length = (lendV l).1 → sumL (chT l set) = (lendV l).2 := fun set h => by
    rw [he0] at h ⊢
    show sumL ((bitsL set l.length).map (loAt l)) = sumL ((bitsL set0 l.length).map (loAt l))
    rw [h]
  have hwl : ∀ x ∈ l, 0 ≤ x.wo ∧ x.wo ≤ 1000 := (lendE_wo hE).2
  have hLn : (lendV l).1.length ≤ l.length := by rw [he0]; exact bitsL_len _ _
  clear he0 ho0 hs0
  have hLd := Lend0_w l (by omega) hx
  obtain ⟨T, hT⟩ : ∃ T : Nat, T = 2 ^ l.length := ⟨_, rfl⟩
  have hTi2 : (2 : Int) ^ (min ((l.length : Int)).toNat IntKind.i64.bits) = (T : Int) := by
    rw [hT, Int.toNat_natCast, show min l.length IntKind.i64.bits = l.length from Nat.min_eq_left (by show l.length ≤ 64; omega)]
    simp
  have hTi : (1 : Int) * 2 ^ (min ((l.length : Int)).toNat IntKind.i64.bits) = (T : Int) := by rw [hTi2, Int.one_mul]
  have hTi3 : (2 : Int) ^ (min l.length IntKind.i64.bits) = (T : Int) := by rw [← hTi2, Int.toNat_natCast]
  rw [← hT] at hbest hfnd hpw
  obtain ⟨lv, hlv⟩ : ∃ lv, lv = lendV l := ⟨_, rfl⟩
  rw [← hlv] at hmore hbest hfnd hsame hLn hLd
  repeat' (first
    | with_reducible (first | refine Rd.p ?_ | refine w_alt ?_ ?_ | refine zE ?_ | refine zE0 ?_)
    | with_reducible (first | refine zI fun y hy => ?_ | refine zL ?_ | refine zS ?_ | refine zA fun _ => ?_ | refine zV ?_ | refine zC ?_ | refine zG ?_ | refine zU ?_ | refine zG0 ?_ | refine zU0 ?_ | refine zF ?_)
    | ((with_reducible refine acall_id ?_); refine ACall.val hLd rfl rfl ?_)
    | ((with_reducible refine acall_id ?_); refine ACall.box (upp_c _ _ 20 (by omega) (by omega)) rfl rfl rfl ?_; rintro _ _ ⟨z, rfl, hz1, hz2⟩)
    | ((with_reducible refine acall_id ?_); refine ACall.liftS (ownLoansO_c l (by omega)) [] (some 2) rfl rfl rfl trivial (fun _ => rfl) ?_; rintro g32 _ rfl)
    | ((with_reducible refine acall_id ?_); refine ACall.box (upp_c _ _ 3 (by omega) (by omega)) rfl rfl rfl ?_; rintro _ _ ⟨z3, rfl, hz3, hz4⟩)
    | ((with_reducible refine acall_id ?_); refine ACall.box (upp_c _ _ 8 (by omega) (by omega)) rfl rfl rfl ?_; rintro _ _ ⟨z8, rfl, hz8, hz9⟩)
    | ((with_reducible refine acall_id ?_); refine ACall.val (Lend1_w l ⟨_, _, _, _⟩ (by omega) hx (lonE_of (by first | omega | (dsimp only; omega)) (by first | omega | (dsimp only; omega)) (by first | omega | (dsimp only; omega)))) rfl rfl ?_)
    | with_reducible (first | refine zX ?_ | refine zD fun _ => ?_ | refine zD0 ?_ | refine zN ?_ | refine zF0 ?_ | refine zX0 ?_ | refine z1 ?_ | refine z2 ?_ | refine z3 ?_ | refine z4 ?_ | refine z5 ?_ | refine z6 ?_ | refine z7 ?_ | refine z8 ?_ | refine y1 ?_ | refine y2 ?_ | refine y3 ?_ | refine y4 ?_ | refine y5 ?_ | refine y6 ?_ | refine y7 ?_ | refine y8 ?_ | refine Rt.p (fun _ => ?_) fun _ => ?_)
    | ((with_reducible apply w_ixM); (focus exact rfl); (focus exact rfl); case' hk => intro y hy) | ((with_reducible (first | apply w_val | apply q_ends)); (focus exact rfl)))
  all_goals try (rename_i hbad; exact absurd (hmore _ (lonE_of (by first | omega | (dsimp only; omega)) (by first | omega | (dsimp only; omega)) (by first | omega | (dsimp only; omega)))) (Int.not_le.2 hbad))
  clear hmore
  refine w_loopK [4, 5, 6] [] (fun set : Nat => set ≤ T) (fun set => T - set) (fun set => [(13, .int .i64 set), (12, .bool (fndF l lv.1 set))]) (fun _ => []) 0 (Nat.zero_le _) (by exact ⟨rfl, rfl, trivial⟩) trivial ?_
  rintro set hst e σ
  try dsimp only at hst ⊢
  by_cases hsT : set = T
  · subst hsT
    rw [hfnd]
    repeat' (first
      | with_reducible (first | refine Rd.p ?_ | refine w_alt ?_ ?_ | refine zE ?_ | refine zE0 ?_)
      | with_reducible (first | refine zI fun y hy => ?_ | refine zL ?_ | refine zS ?_ | refine zA fun _ => ?_ | refine zV ?_ | refine zC ?_ | refine zG ?_ | refine zU ?_ | refine zG0 ?_ | refine zU0 ?_ | refine zF ?_)
      | ((with_reducible refine acall_id ?_); refine ACall.val wake_s rfl rfl ?_)
      | with_reducible (first | refine zX ?_ | refine zD fun _ => ?_ | refine zD0 ?_ | refine zN ?_ | refine zF0 ?_ | refine zX0 ?_ | refine z1 ?_ | refine z2 ?_ | refine z3 ?_ | refine z4 ?_ | refine z5 ?_ | refine z6 ?_ | refine z7 ?_ | refine z8 ?_ | refine y1 ?_ | refine y2 ?_ | refine y3 ?_ | refine y4 ?_ | refine y5 ?_ | refine y6 ?_ | refine y7 ?_ | refine y8 ?_ | refine Rt.p (fun _ => ?_) fun _ => ?_)
      | ((with_reducible apply w_ixM); (focus exact rfl); (focus exact rfl); case' hk => intro y hy) | ((with_reducible (first | apply w_val | apply q_ends)); (focus exact rfl)))
    all_goals first
      | (exfalso; omega)
      | rfl
  have hlt : set < T := by omega
  have hpw9 : (2 : Nat) ^ 9 = 512 := by decide
  have hch := rChosen_s l set (by omega) (by omega) hwl
  have hb := hbest set hlt
  have hs := hsame set
  have hNl := bitsL_len set l.length
  have hfs : fndF l lv.1 (set + 1) = (fndF l lv.1 set || (okS [] (chT l set) && decide (bitsL set l.length = lv.1))) := rfl
  rw [betO_bef] at hb
  unfold rchV at hch
  clear hbest hsame hfnd hlv
  generalize chT l set = C at *
  generalize bitsL set l.length = N at *
  obtain ⟨b, wo⟩ := lv
  dsimp only at *
  obtain ⟨FD, hFD⟩ : ∃ FD, FD = fndF l b set := ⟨_, rfl⟩
  obtain ⟨FD2, hFD2⟩ : ∃ FD2, FD2 = fndF l b (set + 1) := ⟨_, rfl⟩
  rw [← hFD, ← hFD2] at hfs
  rw [← hFD]
  cases hok : okS [] C with
  | false =>
    rw [hok, if_neg (by simp)] at hch
    rw [hok, Bool.false_and, Bool.or_false] at hfs
    repeat' (first
      | with_reducible (first | refine Rd.p ?_ | refine w_alt ?_ ?_ | refine zE ?_ | refine zE0 ?_)
      | with_reducible (first | refine zI fun y hy => ?_ | refine zL ?_ | refine zS ?_ | refine zA fun _ => ?_ | refine zV ?_ | refine zC ?_ | refine zG ?_ | refine zU ?_ | refine zG0 ?_ | refine zU0 ?_ | refine zF ?_)
      | ((with_reducible refine acall_id ?_); refine ACall.val hch rfl rfl ?_)
      | with_reducible (first | refine zX ?_ | refine zD fun _ => ?_ | refine zD0 ?_ | refine zN ?_ | refine zF0 ?_ | refine zX0 ?_ | refine z1 ?_ | refine z2 ?_ | refine z3 ?_ | refine z4 ?_ | refine z5 ?_ | refine z6 ?_ | refine z7 ?_ | refine z8 ?_ | refine y1 ?_ | refine y2 ?_ | refine y3 ?_ | refine y4 ?_ | refine y5 ?_ | refine y6 ?_ | refine y7 ?_ | refine y8 ?_ | refine Rt.p (fun _ => ?_) fun _ => ?_)
      | ((with_reducible apply w_ixM); (focus exact rfl); (focus exact rfl); case' hk => intro y hy) | ((with_reducible (first | apply w_val | apply q_ends)); (focus exact rfl)))
    all_goals first
      | (exfalso; omega)
      | exact q_loop (set + 1) (by show set + 1 ≤ T; omega) (by show T - (set + 1) < T - set; omega) (slots_cons (by show AV.int .i64 _ = AV.int .i64 _; refine int_eq ?_; simp) (slots_cons (by show AV.bool _ = AV.bool _; rw [← hFD2, hfs]) slots_nil)) trivial (by repeat' (first | exact kept_nil | apply kept_cons | rfl)) (by repeat' (first | exact kept_nil | apply kept_cons | rfl))
  | true =>
    rw [hok, if_pos rfl] at hch
    rw [hok, Bool.true_and] at hfs
    have hb := hb hok
    have hE := eq_c N b (by omega)
    generalize sumL C = S at *
    by_cases hNb : N = b
    · subst hNb
      have hs := hs rfl
      subst hs
      rw [decide_eq_true rfl] at hE hfs
      rw [Bool.or_true] at hfs
      cases hfd : FD
      all_goals
        repeat' (first
          | with_reducible (first | refine Rd.p ?_ | refine w_alt ?_ ?_ | refine zE ?_ | refine zE0 ?_)
          | with_reducible (first | refine zI fun y hy => ?_ | refine zL ?_ | refine zS ?_ | refine zA fun _ => ?_ | refine zV ?_ | refine zC ?_ | refine zG ?_ | refine zU ?_ | refine zG0 ?_ | refine zU0 ?_ | refine zF ?_)
          | ((with_reducible refine acall_id ?_); refine ACall.val hch rfl rfl ?_)
          | ((with_reducible refine acall_id ?_); refine ACall.val hE rfl rfl ?_)
          | with_reducible (first | refine zX ?_ | refine zD fun _ => ?_ | refine zD0 ?_ | refine zN ?_ | refine zF0 ?_ | refine zX0 ?_ | refine z1 ?_ | refine z2 ?_ | refine z3 ?_ | refine z4 ?_ | refine z5 ?_ | refine z6 ?_ | refine z7 ?_ | refine z8 ?_ | refine y1 ?_ | refine y2 ?_ | refine y3 ?_ | refine y4 ?_ | refine y5 ?_ | refine y6 ?_ | refine y7 ?_ | refine y8 ?_ | refine Rt.p (fun _ => ?_) fun _ => ?_)
          | ((with_reducible apply w_ixM); (focus exact rfl); (focus exact rfl); case' hk => intro y hy) | ((with_reducible (first | apply w_val | apply q_ends)); (focus exact rfl)))
        all_goals first
          | (exfalso; omega)
          | exact q_loop (set + 1) (by show set + 1 ≤ T; omega) (by show T - (set + 1) < T - set; omega) (slots_cons (by show AV.int .i64 _ = AV.int .i64 _; refine int_eq ?_; simp) (slots_cons (by show AV.bool _ = AV.bool _; rw [← hFD2, hfs]) slots_nil)) trivial (by repeat' (first | exact kept_nil | apply kept_cons | rfl)) (by repeat' (first | exact kept_nil | apply kept_cons | rfl))
    · rw [decide_eq_false hNb] at hE hfs
      rw [Bool.or_false] at hfs
      have hb1 : ¬ wo < S := fun h => hb (.inl h)
      by_cases hle : N.length = b.length
      · have hBf := bef9_c N b (by omega) (by omega)
        have hb2 : S = wo → befF N b = false := fun h => by
          cases hbf : befF N b with
          | false => rfl
          | true => exact absurd (.inr ⟨h, .inr ⟨hle, hbf⟩⟩) hb
        by_cases hSw : S = wo
        · rw [hb2 hSw] at hBf
          cases hfd : FD
          all_goals
            rw [hfd] at hfs
            repeat' (first
              | with_reducible (first | refine Rd.p ?_ | refine w_alt ?_ ?_ | refine zE ?_ | refine zE0 ?_)
              | with_reducible (first | refine zI fun y hy => ?_ | refine zL ?_ | refine zS ?_ | refine zA fun _ => ?_ | refine zV ?_ | refine zC ?_ | refine zG ?_ | refine zU ?_ | refine zG0 ?_ | refine zU0 ?_ | refine zF ?_)
              | ((with_reducible refine acall_id ?_); refine ACall.val hch rfl rfl ?_)
              | ((with_reducible refine acall_id ?_); refine ACall.val hE rfl rfl ?_)
              | ((with_reducible refine acall_id ?_); refine ACall.val hBf rfl rfl ?_)
              | with_reducible (first | refine zX ?_ | refine zD fun _ => ?_ | refine zD0 ?_ | refine zN ?_ | refine zF0 ?_ | refine zX0 ?_ | refine z1 ?_ | refine z2 ?_ | refine z3 ?_ | refine z4 ?_ | refine z5 ?_ | refine z6 ?_ | refine z7 ?_ | refine z8 ?_ | refine y1 ?_ | refine y2 ?_ | refine y3 ?_ | refine y4 ?_ | refine y5 ?_ | refine y6 ?_ | refine y7 ?_ | refine y8 ?_ | refine Rt.p (fun _ => ?_) fun _ => ?_)
              | ((with_reducible apply w_ixM); (focus exact rfl); (focus exact rfl); case' hk => intro y hy) | ((with_reducible (first | apply w_val | apply q_ends)); (focus exact rfl)))
            all_goals first
              | (exfalso; omega)
              | exact q_loop (set + 1) (by show set + 1 ≤ T; omega) (by show T - (set + 1) < T - set; omega) (slots_cons (by show AV.int .i64 _ = AV.int .i64 _; refine int_eq ?_; simp) (slots_cons (by show AV.bool _ = AV.bool _; rw [← hFD2, hfs]) slots_nil)) trivial (by repeat' (first | exact kept_nil | apply kept_cons | rfl)) (by repeat' (first | exact kept_nil | apply kept_cons | rfl))
        · cases hfd : FD
          all_goals
            rw [hfd] at hfs
            repeat' (first
              | with_reducible (first | refine Rd.p ?_ | refine w_alt ?_ ?_ | refine zE ?_ | refine zE0 ?_)
              | with_reducible (first | refine zI fun y hy => ?_ | refine zL ?_ | refine zS ?_ | refine zA fun _ => ?_ | refine zV ?_ | refine zC ?_ | refine zG ?_ | refine zU ?_ | refine zG0 ?_ | refine zU0 ?_ | refine zF ?_)
              | ((with_reducible refine acall_id ?_); refine ACall.val hch rfl rfl ?_)
              | ((with_reducible refine acall_id ?_); refine ACall.val hE rfl rfl ?_)
              | ((with_reducible refine acall_id ?_); refine ACall.val hBf rfl rfl ?_)
              | with_reducible (first | refine zX ?_ | refine zD fun _ => ?_ | refine zD0 ?_ | refine zN ?_ | refine zF0 ?_ | refine zX0 ?_ | refine z1 ?_ | refine z2 ?_ | refine z3 ?_ | refine z4 ?_ | refine z5 ?_ | refine z6 ?_ | refine z7 ?_ | refine z8 ?_ | refine y1 ?_ | refine y2 ?_ | refine y3 ?_ | refine y4 ?_ | refine y5 ?_ | refine y6 ?_ | refine y7 ?_ | refine y8 ?_ | refine Rt.p (fun _ => ?_) fun _ => ?_)
              | ((with_reducible apply w_ixM); (focus exact rfl); (focus exact rfl); case' hk => intro y hy) | ((with_reducible (first | apply w_val | apply q_ends)); (focus exact rfl)))
            all_goals first
              | (exfalso; omega)
              | exact q_loop (set + 1) (by show set + 1 ≤ T; omega) (by show T - (set + 1) < T - set; omega) (slots_cons (by show AV.int .i64 _ = AV.int .i64 _; refine int_eq ?_; simp) (slots_cons (by show AV.bool _ = AV.bool _; rw [← hFD2, hfs]) slots_nil)) trivial (by repeat' (first | exact kept_nil | apply kept_cons | rfl)) (by repeat' (first | exact kept_nil | apply kept_cons | rfl))
      · have hb2 : S = wo → ¬ N.length < b.length := fun h h2 => hb (.inr ⟨h, .inl h2⟩)
        by_cases hSw : S = wo
        · have hb3 := hb2 hSw
          cases hfd : FD
          all_goals
            rw [hfd] at hfs
            repeat' (first
              | with_reducible (first | refine Rd.p ?_ | refine w_alt ?_ ?_ | refine zE ?_ | refine zE0 ?_)
              | with_reducible (first | refine zI fun y hy => ?_ | refine zL ?_ | refine zS ?_ | refine zA fun _ => ?_ | refine zV ?_ | refine zC ?_ | refine zG ?_ | refine zU ?_ | refine zG0 ?_ | refine zU0 ?_ | refine zF ?_)
              | ((with_reducible refine acall_id ?_); refine ACall.val hch rfl rfl ?_)
              | ((with_reducible refine acall_id ?_); refine ACall.val hE rfl rfl ?_)
              | with_reducible (first | refine zX ?_ | refine zD fun _ => ?_ | refine zD0 ?_ | refine zN ?_ | refine zF0 ?_ | refine zX0 ?_ | refine z1 ?_ | refine z2 ?_ | refine z3 ?_ | refine z4 ?_ | refine z5 ?_ | refine z6 ?_ | refine z7 ?_ | refine z8 ?_ | refine y1 ?_ | refine y2 ?_ | refine y3 ?_ | refine y4 ?_ | refine y5 ?_ | refine y6 ?_ | refine y7 ?_ | refine y8 ?_ | refine Rt.p (fun _ => ?_) fun _ => ?_)
              | ((with_reducible apply w_ixM); (focus exact rfl); (focus exact rfl); case' hk => intro y hy) | ((with_reducible (first | apply w_val | apply q_ends)); (focus exact rfl)))
            all_goals first
              | (exfalso; omega)
              | exact q_loop (set + 1) (by show set + 1 ≤ T; omega) (by show T - (set + 1) < T - set; omega) (slots_cons (by show AV.int .i64 _ = AV.int .i64 _; refine int_eq ?_; simp) (slots_cons (by show AV.bool _ = AV.bool _; rw [← hFD2, hfs]) slots_nil)) trivial (by repeat' (first | exact kept_nil | apply kept_cons | rfl)) (by repeat' (first | exact kept_nil | apply kept_cons | rfl))
        · cases hfd : FD
          all_goals
            rw [hfd] at hfs
            repeat' (first
              | with_reducible (first | refine Rd.p ?_ | refine w_alt ?_ ?_ | refine zE ?_ | refine zE0 ?_)
              | with_reducible (first | refine zI fun y hy => ?_ | refine zL ?_ | refine zS ?_ | refine zA fun _ => ?_ | refine zV ?_ | refine zC ?_ | refine zG ?_ | refine zU ?_ | refine zG0 ?_ | refine zU0 ?_ | refine zF ?_)
              | ((with_reducible refine acall_id ?_); refine ACall.val hch rfl rfl ?_)
              | ((with_reducible refine acall_id ?_); refine ACall.val hE rfl rfl ?_)
              | with_reducible (first | refine zX ?_ | refine zD fun _ => ?_ | refine zD0 ?_ | refine zN ?_ | refine zF0 ?_ | refine zX0 ?_ | refine z1 ?_ | refine z2 ?_ | refine z3 ?_ | refine z4 ?_ | refine z5 ?_ | refine z6 ?_ | refine z7 ?_ | refine z8 ?_ | refine y1 ?_ | refine y2 ?_ | refine y3 ?_ | refine y4 ?_ | refine y5 ?_ | refine y6 ?_ | refine y7 ?_ | refine y8 ?_ | refine Rt.p (fun _ => ?_) fun _ => ?_)
              | ((with_reducible apply w_ixM); (focus exact rfl); (focus exact rfl); case' hk => intro y hy) | ((with_reducible (first | apply w_val | apply q_ends)); (focus exact rfl)))
            all_goals first
              | (exfalso; omega)
              | exact q_loop (set + 1) (by show set + 1 ≤ T; omega) (by show T - (set + 1) < T - set; omega) (slots_cons (by show AV.int .i64 _ = AV.int .i64 _; refine int_eq ?_; simp) (slots_cons (by show AV.bool _ = AV.bool _; rw [← hFD2, hfs]) slots_nil)) trivial (by repeat' (first | exact kept_nil | apply kept_cons | rfl)) (by repeat' (first | exact kept_nil | apply kept_cons | rfl))
end Go.Abs
