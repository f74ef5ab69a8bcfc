/- A part of the proofs of the laws of this seat: contracts of the functions that they reach, each proved of the program's form in Lean. No condition beyond those that each contract names. -/
import Derived.Test.YtmekfgjlcaonjaaK8
import Derived.Test.YtmekfgjlcaonjaaK7
import Derived.Test.YtmekfgjlcaonjaaK4
import Derived.Test.YtmekfgjlcaonjaaK3
import Derived.Test.YtmekfgjlcaonjaaK2
import Derived.Test.YtmekfgjlcaonjaaK1
import Derived.Test.YtmekfgjlcaonjaaC13
import Derived.Test.YtmekfgjlcaonjaaD8
import Derived.Test.YtmekfgjlcaonjaaD7
import Derived.Test.YtmekfgjlcaonjaaD5
import Derived.Test.YtmekfgjlcaonjaaD4
import Derived.Test.YtmekfgjlcaonjaaD3
import Derived.Test.YtmekfgjlcaonjaaC7
import Derived.Test.YtmekfgjlcaonjaaC6
import Derived.Test.YtmekfgjlcaonjaaC5
import Derived.Test.YtmekfgjlcaonjaaC4
import Derived.Test.YtmekfgjlcaonjaaC3
import Derived.Test.YtmekfgjlcaonjaaC2
import Derived.Test.YtmekfgjlcaonjaaC1
import Derived.Test.YtmekfgjlcaonjaaB
import Derived.Test.YtmekfgjlcaonjaaD1
import Derived.Test.YtmekfgjlcaonjaaC16
set_option linter.unusedVariables false
set_option linter.unusedSimpArgs false
set_option maxRecDepth 20000
set_option maxHeartbeats 4000000
namespace Go.Abs
open Go.Proofs
/-- aloeswood/aloeswoodlaw09.StoreChains -/
def ir3 : IFn :=
  ⟨133, [(6, none)], (.seq (.ops [⟨(some 3), none, (.box 4 (.t 0))⟩,
    ⟨(some 4), none, (.box 4 (.t 1))⟩,
    ⟨(some 6), none, (.mov (.k (.bool false)))⟩])
  (.seq (.seq (.ops [⟨(some 22), none, (.ld 4 true (.t 3))⟩,
    ⟨(some 23), none, (.callF 15 [(.t 22)])⟩])
  (.cnd (.t 23)
    (.seq (.ops [⟨(some 24), none, (.callF 16 [])⟩,
      ⟨(some 6), none, (.mov (.t 24))⟩])
    .ret)
    .skip))
  (.seq (.ops [⟨(some 25), none, (.mov (.t 2))⟩,
    ⟨(some 26), none, (.callF 17 [(.t 25)])⟩,
    ⟨(some 7), none, (.mov (.t 26))⟩])
  (.seq (.ops [⟨(some 27), none, (.mov (.t 7))⟩,
    ⟨(some 28), none, (.callF 18 [(.t 27), (.k (.int .i64 7)), (.k (.int .i64 6)), (.k (.int .i64 4))])⟩,
    ⟨(some 8), none, (.new [(.int .i64 0), (.int .i64 0), (.int .i64 0), .nsl])⟩,
    ⟨none, none, (.st 4 (.t 8) (.t 28))⟩])
  (.seq (.seq (.ops [⟨(some 29), none, (.flA 3 (.t 8))⟩,
    ⟨(some 30), none, (.ld 1 false (.t 29))⟩,
    ⟨(some 31), none, (.len false (.t 30))⟩,
    ⟨(some 32), none, (.bin .gtr (.t 31) (.k (.int .i64 0)))⟩,
    ⟨(some 33), none, (.mov (.t 32))⟩,
    ⟨(some 34), (some (33, true)), (.mov (.t 7))⟩,
    ⟨(some 35), (some (33, true)), (.callF 19 [(.t 34), (.k (.int .i64 3))])⟩,
    ⟨(some 36), none, (.pick (.t 33) (.t 35) (.k (.bool false)))⟩])
  (.cnd (.t 36)
    (.ops [⟨(some 37), none, (.flA 3 (.t 8))⟩,
      ⟨(some 38), none, (.ld 1 false (.t 37))⟩,
      ⟨(some 39), none, (.mov (.t 7))⟩,
      ⟨(some 40), none, (.flA 3 (.t 8))⟩,
      ⟨(some 41), none, (.ld 1 false (.t 40))⟩,
      ⟨(some 42), none, (.len false (.t 41))⟩,
      ⟨(some 44), none, (.ld 4 true (.t 4))⟩,
      ⟨(some 43), none, (.callF 20 [(.t 39), (.t 42)])⟩,
      ⟨none, none, (.chk 1 false (.t 37) 38)⟩,
      ⟨none, none, (.chk 4 true (.t 4) 44)⟩,
      ⟨(some 45), none, (.ixA 4 (.t 38) (.t 43))⟩,
      ⟨none, none, (.st 4 (.t 45) (.t 44))⟩])
    .skip))
  (.seq (.seq (.frz (.t 30))
  (.ops [⟨(some 46), none, (.ld 4 true (.t 3))⟩,
    ⟨(some 47), none, (.ld 4 true (.t 8))⟩,
    ⟨(some 48), none, (.bsl 4 [[(.int .i64 0), (.int .i64 0), (.int .i64 0), .nsl], [(.int .i64 0), (.int .i64 0), (.int .i64 0), .nsl]] [(0, (.t 46)), (1, (.t 47))])⟩,
    ⟨(some 9), none, (.mov (.t 48))⟩]))
  (.seq (.seq (.ops [⟨(some 10), none, (.mov (.k (.int .i64 0)))⟩])
  (.blk 0 (.loop (.seq (.seq (.ops [⟨(some 49), none, (.mov (.t 10))⟩,
        ⟨(some 50), none, (.mov (.t 9))⟩,
        ⟨(some 51), none, (.len false (.t 50))⟩,
        ⟨(some 52), none, (.bin .lss (.t 49) (.t 51))⟩])
      (.cnd (.t 52)
        .skip
        (.exit 0)))
      (.seq (.blk 1 (.seq (.ops [⟨(some 55), none, (.mov (.t 9))⟩,
          ⟨(some 56), none, (.mov (.t 10))⟩,
          ⟨(some 57), none, (.ixA 4 (.t 55) (.t 56))⟩,
          ⟨(some 58), none, (.ld 4 true (.t 57))⟩,
          ⟨(some 59), none, (.callF 21 [(.t 58)])⟩,
          ⟨(some 11), none, (.new [(.int .i64 0), (.int .i64 0), (.int .i64 0), .nsl])⟩,
          ⟨none, none, (.st 4 (.t 11) (.t 59))⟩])
        (.seq (.ops [⟨(some 61), none, (.ld 4 true (.t 11))⟩,
          ⟨(some 62), none, (.callF 22 [(.t 61)])⟩,
          ⟨(some 60), none, (.mov (.t 62))⟩,
          ⟨(some 63), none, (.ext 0 (.t 60))⟩,
          ⟨(some 64), none, (.ext 1 (.t 60))⟩,
          ⟨(some 12), none, (.mov (.t 63))⟩,
          ⟨(some 13), none, (.mov (.t 64))⟩])
        (.seq (.ops [⟨(some 66), none, (.mov (.t 9))⟩,
          ⟨(some 67), none, (.mov (.t 10))⟩,
          ⟨(some 68), none, (.ixA 4 (.t 66) (.t 67))⟩,
          ⟨(some 69), none, (.ld 4 true (.t 68))⟩,
          ⟨(some 70), none, (.callF 23 [(.t 69)])⟩,
          ⟨(some 65), none, (.mov (.t 70))⟩,
          ⟨(some 71), none, (.ext 0 (.t 65))⟩,
          ⟨(some 72), none, (.ext 1 (.t 65))⟩,
          ⟨(some 14), none, (.mov (.t 71))⟩,
          ⟨(some 15), none, (.mov (.t 72))⟩])
        (.seq (.ops [⟨(some 74), none, (.ld 4 true (.t 11))⟩,
          ⟨(some 75), none, (.callF 24 [(.t 74)])⟩,
          ⟨(some 73), none, (.mov (.t 75))⟩,
          ⟨(some 76), none, (.ext 0 (.t 73))⟩,
          ⟨(some 77), none, (.ext 1 (.t 73))⟩,
          ⟨(some 78), none, (.ext 2 (.t 73))⟩,
          ⟨(some 16), none, (.new [(.int .i64 0), (.int .i64 0)])⟩,
          ⟨none, none, (.st 2 (.t 16) (.t 76))⟩,
          ⟨(some 17), none, (.mov (.t 77))⟩,
          ⟨(some 18), none, (.mov (.t 78))⟩])
        (.seq (.ops [⟨(some 80), none, (.mov (.t 9))⟩,
          ⟨(some 81), none, (.mov (.t 10))⟩,
          ⟨(some 82), none, (.ixA 4 (.t 80) (.t 81))⟩,
          ⟨(some 83), none, (.ld 4 true (.t 82))⟩,
          ⟨(some 84), none, (.callF 25 [(.t 83)])⟩,
          ⟨(some 79), none, (.mov (.t 84))⟩,
          ⟨(some 85), none, (.ext 0 (.t 79))⟩,
          ⟨(some 86), none, (.ext 1 (.t 79))⟩,
          ⟨(some 87), none, (.ext 2 (.t 79))⟩,
          ⟨(some 19), none, (.new [(.int .i64 0), (.int .i64 0)])⟩,
          ⟨none, none, (.st 2 (.t 19) (.t 85))⟩,
          ⟨(some 20), none, (.mov (.t 86))⟩,
          ⟨(some 21), none, (.mov (.t 87))⟩])
        (.seq (.ops [⟨(some 88), none, (.ld 4 true (.t 11))⟩,
          ⟨(some 90), none, (.mov (.t 9))⟩,
          ⟨(some 91), none, (.mov (.t 10))⟩,
          ⟨(some 92), none, (.ixA 4 (.t 90) (.t 91))⟩,
          ⟨(some 93), none, (.ld 4 true (.t 92))⟩,
          ⟨(some 89), none, (.callF 26 [(.t 88)])⟩,
          ⟨none, none, (.chk 4 true (.t 92) 93)⟩,
          ⟨(some 94), none, (.callF 27 [(.t 93)])⟩,
          ⟨(some 95), none, (.bin .neq (.t 89) (.t 94))⟩,
          ⟨(some 96), none, (.mov (.t 95))⟩,
          ⟨(some 97), (some (96, false)), (.mov (.t 13))⟩,
          ⟨(some 98), (some (96, false)), (.mov (.t 15))⟩,
          ⟨(some 99), (some (96, false)), (.bin .neq (.t 97) (.t 98))⟩,
          ⟨(some 100), none, (.pick (.t 96) (.k (.bool true)) (.t 99))⟩,
          ⟨(some 101), none, (.mov (.t 100))⟩,
          ⟨(some 102), (some (101, false)), (.mov (.t 18))⟩,
          ⟨(some 103), (some (101, false)), (.mov (.t 21))⟩,
          ⟨(some 104), (some (101, false)), (.bin .neq (.t 102) (.t 103))⟩,
          ⟨(some 105), none, (.pick (.t 101) (.k (.bool true)) (.t 104))⟩,
          ⟨(some 106), none, (.mov (.t 105))⟩,
          ⟨(some 107), (some (106, false)), (.ld 2 true (.t 16))⟩,
          ⟨(some 108), (some (106, false)), (.ld 2 true (.t 19))⟩,
          ⟨(some 109), (some (106, false)), (.eqn (.flat [.i, .i]) true (.t 107) (.t 108))⟩,
          ⟨(some 110), none, (.pick (.t 106) (.k (.bool true)) (.t 109))⟩,
          ⟨(some 111), none, (.mov (.t 110))⟩,
          ⟨(some 112), (some (111, false)), (.mov (.t 12))⟩,
          ⟨(some 113), (some (111, false)), (.mov (.t 14))⟩,
          ⟨(some 114), (some (111, false)), (.callF 28 [(.t 112), (.t 113)])⟩,
          ⟨(some 115), (some (111, false)), (.not (.t 114))⟩,
          ⟨(some 116), none, (.pick (.t 111) (.k (.bool true)) (.t 115))⟩,
          ⟨(some 117), none, (.mov (.t 116))⟩,
          ⟨(some 118), (some (117, false)), (.mov (.t 17))⟩,
          ⟨(some 119), (some (117, false)), (.mov (.t 20))⟩,
          ⟨(some 120), (some (117, false)), (.callF 29 [(.t 118), (.t 119)])⟩,
          ⟨(some 121), (some (117, false)), (.not (.t 120))⟩,
          ⟨(some 122), none, (.pick (.t 117) (.k (.bool true)) (.t 121))⟩,
          ⟨(some 123), none, (.mov (.t 122))⟩,
          ⟨(some 124), (some (123, false)), (.ld 4 true (.t 11))⟩,
          ⟨(some 125), (some (123, false)), (.mov (.t 9))⟩,
          ⟨(some 126), (some (123, false)), (.mov (.t 10))⟩,
          ⟨(some 127), (some (123, false)), (.ixA 4 (.t 125) (.t 126))⟩,
          ⟨(some 128), (some (123, false)), (.ld 4 true (.t 127))⟩,
          ⟨(some 129), (some (123, false)), (.callF 30 [(.t 124), (.t 128)])⟩,
          ⟨(some 130), (some (123, false)), (.not (.t 129))⟩,
          ⟨(some 131), none, (.pick (.t 123) (.k (.bool true)) (.t 130))⟩])
        (.cnd (.t 131)
          (.seq (.ops [⟨(some 6), none, (.mov (.k (.bool false)))⟩])
          .ret)
          .skip))))))))
      (.ops [⟨(some 53), none, (.mov (.t 10))⟩,
        ⟨(some 54), none, (.bin .add (.t 53) (.k (.int .i64 1)))⟩,
        ⟨(some 10), none, (.mov (.t 54))⟩]))))))
  (.seq (.ops [⟨(some 132), none, (.callF 16 [])⟩,
    ⟨(some 6), none, (.mov (.t 132))⟩])
  .ret))))))))⟩
def hint3 (P : Program) : Hint := { site := [], nils := [], frz := [(48, 30)], mve := [], wr := [] }
theorem rows_set4 : ∀ (xs : List Lnk) (k : Nat) (y : Lnk), k < xs.length → setL ((xs.map Lnk.row).flatten) (k * 4) (Lnk.row y) = ((xs.set k y).map Lnk.row).flatten
  | [], k, y, h => by simp at h
  | x :: xs, 0, y, _ => rfl
  | x :: xs, k + 1, y, h => by
    have ih := rows_set4 xs k y (by simpa using h)
    rw [show (k + 1) * 4 = k * 4 + 4 by omega, List.set_cons_succ, List.map_cons, List.map_cons, List.flatten_cons, List.flatten_cons, ← ih]
    rfl
theorem w_stM4 {P : Program} {K : (Nat → AV) → Sig → Prop} {e : Nat → AV} {σ : Sig} {x v : IOpd} {r : List IStep} {i g off : Nat} {xs : List Lnk} {y : Lnk} (k : Nat) (hx : x.ev e = .ref i g off) (hv : v.ev e = .agg (Lnk.row y)) (hσ : σ i = (g, .row (xs.map Lnk.row).flatten)) (hk : k < xs.length) (ho : off = k * 4)
    (hK : stepsW P r K e (upd σ i (g, .row ((xs.set k y).map Lnk.row).flatten))) : stepsW P (⟨none, none, .st 4 x v⟩ :: r) K e σ := by
  have hlen := lnkR.flat_len xs
  refine w_det0 (p := g = g ∧ ((Lnk.row y).length = 4 ∧ (Lnk.row y).all AV.scal = true) ∧ off + 4 ≤ (xs.map Lnk.row).flatten.length) (v := .junk) (σ' := upd σ i (g, .row (setL (xs.map Lnk.row).flatten off (Lnk.row y)))) (fun _ => ?_) ⟨rfl, ⟨rfl, rfl⟩, by rw [hlen, ho]; omega⟩ ?_
  · show stO 4 σ (v.ev e) (x.ev e) = _
    rw [hx, hv]
    simp only [stO, cellsO, hσ]
  · rw [ho, rows_set4 xs k y hk]; exact hK
theorem ordersVK_s (c : Chn) (hl : c.ls.length < 1000) (he : chainE c = 0) : Fn0 Try.prog 22 [cA c] (fun v => v = .tup [.slc 1 (llR (ordsF c)) .non, .int .i64 0]) := by
  refine RawC.mono (orders_s c hl) fun v _ h => ?_
  dsimp only at h ⊢
  rw [he] at h
  cases ho : ordsF c with
  | nil => exact absurd ho (ordsF_ne he)
  | cons o os => rw [ho] at h; exact h
theorem daysVK_s (c : Chn) (hl : c.ls.length < 1000) (he : chainE c = 0) : Fn0 Try.prog 24 [cA c] (fun v => v = .tup [.agg [.int .i64 (madeLo c), .int .i64 (madeHi c)], .slc 2 (sR ((List.range c.ls.length).map fun k => (linkLo c k, linkHi c k))) .non, .int .i64 0]) := by
  refine RawC.mono (days_c c hl) fun v _ h => ?_
  dsimp only at h ⊢
  rw [if_pos he, (daysF_eq c).1, (daysF_eq c).2] at h
  exact h
theorem ordsF_len (c : Chn) : (ordsF c).length ≤ 10 ^ 9 ∧ ∀ o ∈ ordsF c, o.length < 2 ^ 62 := by
  by_cases he : chainE c = 0
  · have ok := formE_0 (chainE_0 he).1
    refine ⟨?_, fun o ho => ?_⟩
    · rw [ordsF, if_pos he, ← SLr_tales]
      have h1 := SLr_len c ok.n c.ls.length [] c.maker ok.n
      have : 10 ^ c.ls.length ≤ 10 ^ 7 := Nat.pow_le_pow_right (by omega) ok.n
      omega
    · have := (ordsF_mem ho).1
      have := ok.n
      omega
  · rw [ordsF, if_neg he]
    exact ⟨by simp, fun o ho => by cases ho⟩
theorem getK2 {α : Type} {a b x : α} (h : x ∈ [a, b]) : x = a ∨ x = b := by simpa using h
theorem chains_c (c : Chn) (l : Lnk) (nums : List Int) (hc : c.ls.length < 2 ^ 63) (hn : nums.length < 2 ^ 62) :
    Fn0 Try.prog 3 [cA c, .agg (Lnk.row l), .slc 1 (iR nums) .non] (fun v => v = .bool true) := by
  have hM := many_k c (by omega)
  by_cases hv : 20 < c.ls.length
  · rw [decide_eq_true hv] at hM
    refine RawC.walk (H := hint3 Try.prog) ir3 Try.func3 rfl (by kernel_rfl) rfl ?_
    unfold ir3
    repeat' (first
      | with_reducible (first | refine Rd.p ?_ | refine w_alt ?_ ?_ | refine zE ?_ | refine zE0 ?_)
      | with_reducible (first | refine zI fun y hy => ?_ | refine zL ?_ | refine zS ?_ | refine zA fun _ => ?_ | refine zV ?_ | refine zC ?_ | refine zG ?_ | refine zU ?_ | refine zG0 ?_ | refine zU0 ?_ | refine zF ?_)
      | ((with_reducible refine acall_id ?_); refine ACall.val hM rfl rfl ?_)
      | ((with_reducible refine acall_id ?_); refine ACall.val wake_s rfl rfl ?_)
      | with_reducible (first | refine zX ?_ | refine zD fun _ => ?_ | refine zD0 ?_ | refine zN ?_ | refine zF0 ?_ | refine zX0 ?_ | refine z1 ?_ | refine z2 ?_ | refine z3 ?_ | refine z4 ?_ | refine z5 ?_ | refine z6 ?_ | refine z7 ?_ | refine z8 ?_ | refine y1 ?_ | refine y2 ?_ | refine y3 ?_ | refine y4 ?_ | refine y5 ?_ | refine y6 ?_ | refine y7 ?_ | refine y8 ?_ | refine Rt.p (fun _ => ?_) fun _ => ?_)
      | ((with_reducible apply w_ixM); (focus exact rfl); (focus exact rfl); case' hk => intro y hy) | ((with_reducible (first | apply w_val | apply q_ends)); (focus exact rfl)))
    rfl
  rw [decide_eq_false hv] at hM
  refine RawC.walk (H := hint3 Try.prog) ir3 Try.func3 rfl (by kernel_rfl) rfl ?_
  unfold ir3
  repeat' (first
    | with_reducible (first | refine Rd.p ?_ | refine w_alt ?_ ?_ | refine zE ?_ | refine zE0 ?_)
    | (refine w_stM4 (xs := y2 :: r2) (y := l) k.toNat rfl rfl (by show (g28, Res.row (renL _ ((y2 :: r2).map Lnk.row).flatten)) = _; rw [lnkR.rens]) (by omega) (by omega) ?_)
    | with_reducible (first | refine zI fun y hy => ?_ | refine zL ?_ | refine zS ?_ | refine zA fun _ => ?_ | refine zV ?_ | refine zC ?_ | refine zG ?_ | refine zU ?_ | refine zG0 ?_ | refine zU0 ?_ | refine zF ?_)
    | ((with_reducible refine acall_id ?_); refine ACall.val hM rfl rfl ?_)
    | ((with_reducible refine acall_id ?_); refine ACall.liftS (boxOf_s nums hn) [] (some 6) rfl rfl rfl trivial (fun _ => rfl) ?_; rintro ⟨gb, w⟩ _ rfl)
    | ((with_reducible refine acall_id ?_); refine ACall.liftS (chainW2_c _ _ 7 6 4 (by omega) (by omega) (by omega)) [(1000, 26)] (some 106) rfl rfl rfl ⟨⟨_, rfl⟩, trivial⟩ (fun _ => rfl) ?_; rintro ⟨⟨mk2, lo2, hi2, (_ | ⟨y2, r2⟩)⟩, g28, w2⟩ _ ⟨rfl, hE2, hk2⟩ <;> dsimp only [lwK2, lwX])
    | ((with_reducible refine acall_id ?_); refine ACall.box (one_c _ _ 3 (by omega)) rfl rfl rfl ?_; rintro _ _ ⟨b, rfl⟩)
    | ((with_reducible refine acall_id ?_); refine ACall.box (upp_c _ _ ((y2 :: r2).length : Int) (by have h1 : (y2 :: r2).length = r2.length + 1 := rfl; omega) (by have h1 : ((y2 :: r2).length : Int) ≤ 7 := hk2; omega)) rfl rfl rfl ?_; rintro _ _ ⟨k, rfl, hk1, hk3⟩)
    | with_reducible (first | refine zX ?_ | refine zD fun _ => ?_ | refine zD0 ?_ | refine zN ?_ | refine zF0 ?_ | refine zX0 ?_ | refine z1 ?_ | refine z2 ?_ | refine z3 ?_ | refine z4 ?_ | refine z5 ?_ | refine z6 ?_ | refine z7 ?_ | refine z8 ?_ | refine y1 ?_ | refine y2 ?_ | refine y3 ?_ | refine y4 ?_ | refine y5 ?_ | refine y6 ?_ | refine y7 ?_ | refine y8 ?_ | refine Rt.p (fun _ => ?_) fun _ => ?_)
    | ((with_reducible apply w_ixM); (focus exact rfl); (focus exact rfl); case' hk => intro y hy) | ((with_reducible (first | apply w_val | apply q_ends)); (focus exact rfl)))
  all_goals try (exfalso; have h1 : (y2 :: r2).length = r2.length + 1 := rfl; omega)
  all_goals try (exact absurd ‹(0 : Int) < (([] : List (List AV)).length : Int)› (by decide))
  case' neg.nil.refine_2 =>
    rename_i g3 _ g8 _
    obtain ⟨own, hown⟩ : ∃ own : Chn, own = ⟨mk2, lo2, hi2, []⟩ := ⟨_, rfl⟩
    have hol : own.ls.length ≤ 20 := by rw [hown]; simp
    repeat' (first
      | with_reducible (first | refine Rd.p ?_ | refine w_alt ?_ ?_ | refine zE ?_ | refine zE0 ?_)
      | with_reducible (first | refine zI fun y hy => ?_ | refine zL ?_ | refine zS ?_ | refine zA fun _ => ?_ | refine zV ?_ | refine zC ?_ | refine zG ?_ | refine zU ?_ | refine zG0 ?_ | refine zU0 ?_ | refine zF ?_)
      | with_reducible (first | refine zX ?_ | refine zD fun _ => ?_ | refine zD0 ?_ | refine zN ?_ | refine zF0 ?_ | refine zX0 ?_ | refine z1 ?_ | refine z2 ?_ | refine z3 ?_ | refine z4 ?_ | refine z5 ?_ | refine z6 ?_ | refine z7 ?_ | refine z8 ?_ | refine y1 ?_ | refine y2 ?_ | refine y3 ?_ | refine y4 ?_ | refine y5 ?_ | refine y6 ?_ | refine y7 ?_ | refine y8 ?_ | refine Rt.p (fun _ => ?_) fun _ => ?_)
      | ((with_reducible apply w_ixM); (focus exact rfl); (focus exact rfl); case' hk => intro y hy) | ((with_reducible (first | apply w_val | apply q_ends)); (focus exact rfl)))
    refine w_frzSl rfl ?_
  case' neg.cons.refine_1.refine_1 =>
    rename_i g3 _ g8 _ _ _ _
    obtain ⟨own, hown⟩ : ∃ own : Chn, own = ⟨mk2, lo2, hi2, (y2 :: r2).set k.toNat l⟩ := ⟨_, rfl⟩
    have h7 : ((y2 :: r2).length : Int) ≤ 7 := hk2
    have hol : own.ls.length ≤ 20 := by rw [hown]; show ((y2 :: r2).set k.toNat l).length ≤ 20; rw [List.length_set]; omega
    repeat' (first
      | with_reducible (first | refine Rd.p ?_ | refine w_alt ?_ ?_ | refine zE ?_ | refine zE0 ?_)
      | with_reducible (first | refine zI fun y hy => ?_ | refine zL ?_ | refine zS ?_ | refine zA fun _ => ?_ | refine zV ?_ | refine zC ?_ | refine zG ?_ | refine zU ?_ | refine zG0 ?_ | refine zU0 ?_ | refine zF ?_)
      | with_reducible (first | refine zX ?_ | refine zD fun _ => ?_ | refine zD0 ?_ | refine zN ?_ | refine zF0 ?_ | refine zX0 ?_ | refine z1 ?_ | refine z2 ?_ | refine z3 ?_ | refine z4 ?_ | refine z5 ?_ | refine z6 ?_ | refine z7 ?_ | refine z8 ?_ | refine y1 ?_ | refine y2 ?_ | refine y3 ?_ | refine y4 ?_ | refine y5 ?_ | refine y6 ?_ | refine y7 ?_ | refine y8 ?_ | refine Rt.p (fun _ => ?_) fun _ => ?_)
      | ((with_reducible apply w_ixM); (focus exact rfl); (focus exact rfl); case' hk => intro y hy) | ((with_reducible (first | apply w_val | apply q_ends)); (focus exact rfl)))
    refine w_frzG [(3, .ref 3 g3 0), (8, .ref 8 g8 0)] [(3, (g3, .row (cC c))), (8, (g8, .row (cC own)))] rfl rfl (lnkR.scals _) ⟨rfl, rfl, trivial⟩ ⟨frzS_at rfl (by decide) rfl, frzS_at rfl (by decide) ?_, trivial⟩ ?_
    · show frzL 28 g28 _ [.int .i64 mk2, .int .i64 lo2, .int .i64 hi2, .msl 28 g28 (y2 :: r2).length 4] = _
      simp only [frzL, frzA_mslR (xs := (y2 :: r2).set k.toNat l) lnkR (n := (y2 :: r2).length) List.length_set]
      rw [hown]; rfl
    intro e σ
  case' neg.cons.refine_1.refine_2 =>
    rename_i g3 _ g8 _ _ _
    obtain ⟨own, hown⟩ : ∃ own : Chn, own = ⟨mk2, lo2, hi2, y2 :: r2⟩ := ⟨_, rfl⟩
    have h7 : ((y2 :: r2).length : Int) ≤ 7 := hk2
    have hol : own.ls.length ≤ 20 := by rw [hown]; show (y2 :: r2).length ≤ 20; omega
    repeat' (first
      | with_reducible (first | refine Rd.p ?_ | refine w_alt ?_ ?_ | refine zE ?_ | refine zE0 ?_)
      | with_reducible (first | refine zI fun y hy => ?_ | refine zL ?_ | refine zS ?_ | refine zA fun _ => ?_ | refine zV ?_ | refine zC ?_ | refine zG ?_ | refine zU ?_ | refine zG0 ?_ | refine zU0 ?_ | refine zF ?_)
      | with_reducible (first | refine zX ?_ | refine zD fun _ => ?_ | refine zD0 ?_ | refine zN ?_ | refine zF0 ?_ | refine zX0 ?_ | refine z1 ?_ | refine z2 ?_ | refine z3 ?_ | refine z4 ?_ | refine z5 ?_ | refine z6 ?_ | refine z7 ?_ | refine z8 ?_ | refine y1 ?_ | refine y2 ?_ | refine y3 ?_ | refine y4 ?_ | refine y5 ?_ | refine y6 ?_ | refine y7 ?_ | refine y8 ?_ | refine Rt.p (fun _ => ?_) fun _ => ?_)
      | ((with_reducible apply w_ixM); (focus exact rfl); (focus exact rfl); case' hk => intro y hy) | ((with_reducible (first | apply w_val | apply q_ends)); (focus exact rfl)))
    refine w_frzG [(3, .ref 3 g3 0), (8, .ref 8 g8 0)] [(3, (g3, .row (cC c))), (8, (g8, .row (cC own)))] rfl (by show (g28, Res.row (renL _ ((y2 :: r2).map Lnk.row).flatten)) = _; rw [lnkR.rens]) (lnkR.scals _) ⟨rfl, rfl, trivial⟩ ⟨frzS_at rfl (by decide) rfl, frzS_at rfl (by decide) ?_, trivial⟩ ?_
    · show frzL 28 g28 _ [.int .i64 mk2, .int .i64 lo2, .int .i64 hi2, .msl 28 g28 (y2 :: r2).length 4] = _
      simp only [frzL, frzA_mslR (xs := y2 :: r2) lnkR (n := (y2 :: r2).length) rfl]
      rw [hown]; rfl
    intro e σ
  all_goals
    have hS3 : ∀ x ∈ [c, own], x.ls.length ≤ 20 := fun x hx => by rcases getK2 hx with rfl | rfl <;> omega
    obtain ⟨SS, hSS⟩ : ∃ SS, SS = [c, own] := ⟨_, rfl⟩
    rw [← hSS] at hS3
    have l1 : SS.length = 2 := by rw [hSS]; rfl
    repeat' (first
      | with_reducible (first | refine Rd.p ?_ | refine w_alt ?_ ?_ | refine zE ?_ | refine zE0 ?_)
      | with_reducible (first | refine zI fun y hy => ?_ | refine zL ?_ | refine zS ?_ | refine zA fun _ => ?_ | refine zV ?_ | refine zC ?_ | refine zG ?_ | refine zU ?_ | refine zG0 ?_ | refine zU0 ?_ | refine zF ?_)
      | with_reducible (first | refine zX ?_ | refine zD fun _ => ?_ | refine zD0 ?_ | refine zN ?_ | refine zF0 ?_ | refine zX0 ?_ | refine z1 ?_ | refine z2 ?_ | refine z3 ?_ | refine z4 ?_ | refine z5 ?_ | refine z6 ?_ | refine z7 ?_ | refine z8 ?_ | refine y1 ?_ | refine y2 ?_ | refine y3 ?_ | refine y4 ?_ | refine y5 ?_ | refine y6 ?_ | refine y7 ?_ | refine y8 ?_ | refine Rt.p (fun _ => ?_) fun _ => ?_)
      | ((with_reducible apply w_ixM); (focus exact rfl); (focus exact rfl); case' hk => intro y hy) | ((with_reducible (first | apply w_val | apply q_ends)); (focus exact rfl)))
    refine w_loopK [] [] (fun i : Nat => i ≤ 2) (fun i => 2 - i) (fun i => [(10, .int .i64 i), (9, .slc 4 (SS.map cC) .full)]) (fun _ => []) 0 (by show (0 : Nat) ≤ 2; omega) ⟨rfl, by rw [hSS, hown]; rfl, trivial⟩ trivial ?_
    rintro i hi e σ
    try dsimp only at hi ⊢
    by_cases hi3 : i < 2
    case neg =>
      obtain rfl : i = 2 := by omega
      repeat' (first
        | with_reducible (first | refine Rd.p ?_ | refine w_alt ?_ ?_ | refine zE ?_ | refine zE0 ?_)
        | with_reducible (first | refine zI fun y hy => ?_ | refine zL ?_ | refine zS ?_ | refine zA fun _ => ?_ | refine zV ?_ | refine zC ?_ | refine zG ?_ | refine zU ?_ | refine zG0 ?_ | refine zU0 ?_ | refine zF ?_)
        | ((with_reducible refine acall_id ?_); refine ACall.val wake_s rfl rfl ?_)
        | with_reducible (first | refine zX ?_ | refine zD fun _ => ?_ | refine zD0 ?_ | refine zN ?_ | refine zF0 ?_ | refine zX0 ?_ | refine z1 ?_ | refine z2 ?_ | refine z3 ?_ | refine z4 ?_ | refine z5 ?_ | refine z6 ?_ | refine z7 ?_ | refine z8 ?_ | refine y1 ?_ | refine y2 ?_ | refine y3 ?_ | refine y4 ?_ | refine y5 ?_ | refine y6 ?_ | refine y7 ?_ | refine y8 ?_ | refine Rt.p (fun _ => ?_) fun _ => ?_)
        | ((with_reducible apply w_ixM); (focus exact rfl); (focus exact rfl); case' hk => intro y hy) | ((with_reducible (first | apply w_val | apply q_ends)); (focus exact rfl)))
      all_goals first
        | (exfalso; omega)
        | rfl
    obtain ⟨x, hx⟩ : ∃ x, SS[i]? = some x := ⟨_, List.getElem?_eq_getElem (by omega)⟩
    have smx := hS3 x (List.mem_of_getElem? hx)
    clear hSS hS3
    have hOC := ownChainP_c x (by omega)
    have hEC := eqChains_k x (by omega)
    have hK := check_s x (by omega)
    have hRK := rcheck_s x (by omega)
    have hRO := rOrders_s x (by omega)
    have hRD := rDays_s x (by omega)
    by_cases he : chainE x = 0
    · have hO := ordersVK_s x (by omega) he
      have hD := daysVK_s x (by omega) he
      have hol := ordsF_len x
      have hEL := eqLK_c (ordsF x) (by omega) hol.2
      have hES := eqSpans_c ((List.range x.ls.length).map fun k => (linkLo x k, linkHi x k)) ((List.range x.ls.length).map fun k => (linkLo x k, linkHi x k)) (by simp; omega)
      rw [decide_eq_true rfl] at hES
      rw [he] at hK hRK
      simp only [if_pos he] at hRO hRD
      rw [he] at hRO
      generalize (List.range x.ls.length).map (fun k => (linkLo x k, linkHi x k)) = DL at *
      generalize ordsF x = OL at *
      generalize madeLo x = mLo at *
      generalize madeHi x = mHi at *
      repeat' (first
        | with_reducible (first | refine Rd.p ?_ | refine w_alt ?_ ?_ | refine zE ?_ | refine zE0 ?_)
        | (refine w_ixE (f := cC) hx rfl rfl ?_)
        | with_reducible (first | refine zI fun y hy => ?_ | refine zL ?_ | refine zS ?_ | refine zA fun _ => ?_ | refine zV ?_ | refine zC ?_ | refine zG ?_ | refine zU ?_ | refine zG0 ?_ | refine zU0 ?_ | refine zF ?_)
        | ((with_reducible refine acall_id ?_); refine ACall.val hOC rfl rfl ?_)
        | ((with_reducible refine acall_id ?_); refine ACall.val hO rfl rfl ?_)
        | ((with_reducible refine acall_id ?_); refine ACall.val hRO rfl rfl ?_)
        | ((with_reducible refine acall_id ?_); refine ACall.val hD rfl rfl ?_)
        | ((with_reducible refine acall_id ?_); refine ACall.val hRD rfl rfl ?_)
        | ((with_reducible refine acall_id ?_); refine ACall.val hK rfl rfl ?_)
        | ((with_reducible refine acall_id ?_); refine ACall.val hRK rfl rfl ?_)
        | ((with_reducible refine acall_id ?_); refine ACall.val hEL rfl rfl ?_)
        | ((with_reducible refine acall_id ?_); refine ACall.val hES rfl rfl ?_)
        | ((with_reducible refine acall_id ?_); refine ACall.val hEC rfl rfl ?_)
        | with_reducible (first | refine zX ?_ | refine zD fun _ => ?_ | refine zD0 ?_ | refine zN ?_ | refine zF0 ?_ | refine zX0 ?_ | refine z1 ?_ | refine z2 ?_ | refine z3 ?_ | refine z4 ?_ | refine z5 ?_ | refine z6 ?_ | refine z7 ?_ | refine z8 ?_ | refine y1 ?_ | refine y2 ?_ | refine y3 ?_ | refine y4 ?_ | refine y5 ?_ | refine y6 ?_ | refine y7 ?_ | refine y8 ?_ | refine Rt.p (fun _ => ?_) fun _ => ?_)
        | ((with_reducible apply w_ixM); (focus exact rfl); (focus exact rfl); case' hk => intro y hy) | ((with_reducible (first | apply w_val | apply q_ends)); (focus exact rfl)))
      all_goals first
        | (exfalso; omega)
        | exact q_loop (i + 1) (by show i + 1 ≤ 2; omega) (by show 2 - (i + 1) < 2 - i; omega) (slots_cons (by show AV.int .i64 _ = AV.int .i64 _; refine int_eq ?_; simp) (slots_cons rfl slots_nil)) trivial (by repeat' (first | exact kept_nil | apply kept_cons | rfl)) (by repeat' (first | exact kept_nil | apply kept_cons | rfl))
        | (exfalso; simp_all; done)
    · have hO := orders_s x (by omega)
      rw [show ordsF x = [] by rw [ordsF, if_neg he]] at hO
      have hD : Fn0 Try.prog 24 [cA x] (fun v => v = .tup [.agg [.int .i64 0, .int .i64 0], .nsl, .int .i64 (chainE x)]) := RawC.mono (days_c x (by omega)) fun v _ h => by
        dsimp only at h ⊢
        rw [if_neg he] at h; exact h
      have hEL : Fn0 Try.prog 28 [.nsl, .nsl] (fun v => v = .bool true) := RawC.weak (fun _ _ hr => SubL.rel (.cons Sub.nil (.cons Sub.nil .nil)) hr) (eqLK_c [] (by simp) (fun _ h => by cases h))
      have hES : Fn0 Try.prog 29 [.nsl, .nsl] (fun v => v = .bool true) := RawC.weak (fun _ _ hr => SubL.rel (.cons Sub.nil (.cons Sub.nil .nil)) hr) (by have h := eqSpans_c [] [] (by decide); rw [decide_eq_true rfl] at h; exact h)
      simp only [if_neg he] at hRO hRD
      generalize chainE x = E at *
      repeat' (first
        | with_reducible (first | refine Rd.p ?_ | refine w_alt ?_ ?_ | refine zE ?_ | refine zE0 ?_)
        | (refine w_ixE (f := cC) hx rfl rfl ?_)
        | with_reducible (first | refine zI fun y hy => ?_ | refine zL ?_ | refine zS ?_ | refine zA fun _ => ?_ | refine zV ?_ | refine zC ?_ | refine zG ?_ | refine zU ?_ | refine zG0 ?_ | refine zU0 ?_ | refine zF ?_)
        | ((with_reducible refine acall_id ?_); refine ACall.val hOC rfl rfl ?_)
        | ((with_reducible refine acall_id ?_); refine ACall.val hO rfl rfl ?_)
        | ((with_reducible refine acall_id ?_); refine ACall.val hRO rfl rfl ?_)
        | ((with_reducible refine acall_id ?_); refine ACall.val hD rfl rfl ?_)
        | ((with_reducible refine acall_id ?_); refine ACall.val hRD rfl rfl ?_)
        | ((with_reducible refine acall_id ?_); refine ACall.val hK rfl rfl ?_)
        | ((with_reducible refine acall_id ?_); refine ACall.val hRK rfl rfl ?_)
        | ((with_reducible refine acall_id ?_); refine ACall.val hEL rfl rfl ?_)
        | ((with_reducible refine acall_id ?_); refine ACall.val hES rfl rfl ?_)
        | ((with_reducible refine acall_id ?_); refine ACall.val hEC rfl rfl ?_)
        | with_reducible (first | refine zX ?_ | refine zD fun _ => ?_ | refine zD0 ?_ | refine zN ?_ | refine zF0 ?_ | refine zX0 ?_ | refine z1 ?_ | refine z2 ?_ | refine z3 ?_ | refine z4 ?_ | refine z5 ?_ | refine z6 ?_ | refine z7 ?_ | refine z8 ?_ | refine y1 ?_ | refine y2 ?_ | refine y3 ?_ | refine y4 ?_ | refine y5 ?_ | refine y6 ?_ | refine y7 ?_ | refine y8 ?_ | refine Rt.p (fun _ => ?_) fun _ => ?_)
        | ((with_reducible apply w_ixM); (focus exact rfl); (focus exact rfl); case' hk => intro y hy) | ((with_reducible (first | apply w_val | apply q_ends)); (focus exact rfl)))
      all_goals first
        | (exfalso; omega)
        | exact q_loop (i + 1) (by show i + 1 ≤ 2; omega) (by show 2 - (i + 1) < 2 - i; omega) (slots_cons (by show AV.int .i64 _ = AV.int .i64 _; refine int_eq ?_; simp) (slots_cons rfl slots_nil)) trivial (by repeat' (first | exact kept_nil | apply kept_cons | rfl)) (by repeat' (first | exact kept_nil | apply kept_cons | rfl))
        | (exfalso; simp_all; done)
end Go.Abs
