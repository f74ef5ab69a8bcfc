/- A part of the proofs of the laws of this seat: contracts of the functions that they reach, each proved of the program's form in Lean. No condition beyond those that each contract names. -/
import Derived.Test.YtmekfgjlcaonjaaK23
import Derived.Test.YtmekfgjlcaonjaaK22
import Derived.Test.YtmekfgjlcaonjaaK21
import Derived.Test.YtmekfgjlcaonjaaK19
import Derived.Test.YtmekfgjlcaonjaaK18
import Derived.Test.YtmekfgjlcaonjaaK17
import Derived.Test.YtmekfgjlcaonjaaK16
import Derived.Test.YtmekfgjlcaonjaaK15
import Derived.Test.YtmekfgjlcaonjaaK14
import Derived.Test.YtmekfgjlcaonjaaK13
import Derived.Test.YtmekfgjlcaonjaaK12
import Derived.Test.YtmekfgjlcaonjaaD1
import Derived.Test.YtmekfgjlcaonjaaC3
import Derived.Test.YtmekfgjlcaonjaaC2
import Derived.Test.YtmekfgjlcaonjaaC1
import Derived.Test.YtmekfgjlcaonjaaB
import Derived.Test.YtmekfgjlcaonjaaD8
import Derived.Test.YtmekfgjlcaonjaaC13
import Derived.Test.YtmekfgjlcaonjaaC12
import Derived.Test.YtmekfgjlcaonjaaC11
import Derived.Test.YtmekfgjlcaonjaaC10
import Derived.Test.YtmekfgjlcaonjaaC9
import Derived.Test.YtmekfgjlcaonjaaC8
import Derived.Test.YtmekfgjlcaonjaaC7
import Derived.Test.YtmekfgjlcaonjaaC5
import Derived.Test.YtmekfgjlcaonjaaC4
import Derived.Test.YtmekfgjlcaonjaaD7
import Derived.Test.YtmekfgjlcaonjaaC6
import Derived.Test.YtmekfgjlcaonjaaK58
set_option linter.unusedVariables false
set_option linter.unusedSimpArgs false
set_option maxRecDepth 20000
set_option maxHeartbeats 1000000
namespace Go.Abs
open Go.Proofs
/-- aloeswood/aloeswoodlaw09.tell -/
def ir35 : IFn :=
  ⟨151, [], (.seq (.ops [⟨(some 4), none, (.box 4 (.t 0))⟩])
  (.seq (.seq (.ops [⟨(some 13), none, (.mov (.t 2))⟩,
    ⟨(some 14), none, (.len false (.t 13))⟩,
    ⟨(some 15), none, (.mov (.t 1))⟩,
    ⟨(some 16), none, (.len false (.t 15))⟩,
    ⟨(some 17), none, (.bin .add (.t 16) (.k (.int .i64 1)))⟩,
    ⟨(some 18), none, (.bin .eql (.t 14) (.t 17))⟩])
  (.cnd (.t 18)
    (.seq (.ops [⟨(some 19), none, (.mov (.t 3))⟩,
      ⟨(some 20), none, (.mov (.t 3))⟩,
      ⟨(some 21), none, (.nck (.t 20))⟩,
      ⟨(some 22), none, (.flA 0 (.t 21))⟩,
      ⟨(some 23), none, (.flA 0 (.t 22))⟩,
      ⟨(some 24), none, (.ld 1 false (.t 23))⟩,
      ⟨(some 25), none, (.mov (.t 2))⟩,
      ⟨(some 26), none, (.ixA 1 (.t 25) (.k (.int .i64 0)))⟩,
      ⟨(some 27), none, (.ld 1 false (.t 26))⟩,
      ⟨(some 28), none, (.mxi false (.t 24) (.t 27))⟩,
      ⟨(some 29), none, (.mov (.t 3))⟩,
      ⟨(some 30), none, (.nck (.t 29))⟩,
      ⟨(some 31), none, (.flA 0 (.t 30))⟩,
      ⟨(some 32), none, (.flA 1 (.t 31))⟩,
      ⟨(some 33), none, (.ld 1 false (.t 32))⟩,
      ⟨(some 34), none, (.mov (.t 2))⟩,
      ⟨(some 35), none, (.ixA 1 (.t 34) (.k (.int .i64 0)))⟩,
      ⟨(some 36), none, (.ld 1 false (.t 35))⟩,
      ⟨(some 37), none, (.mxi true (.t 33) (.t 36))⟩,
      ⟨(some 38), none, (.bld [(.int .i64 0), (.int .i64 0)] [(0, 1, (.t 28)), (1, 1, (.t 37))])⟩,
      ⟨(some 39), none, (.nck (.t 19))⟩,
      ⟨(some 40), none, (.flA 0 (.t 39))⟩,
      ⟨none, none, (.st 2 (.t 40) (.t 38))⟩])
    (.seq (.seq (.ops [⟨(some 8), none, (.mov (.k (.int .i64 0)))⟩])
    (.blk 0 (.loop (.seq (.seq (.ops [⟨(some 41), none, (.mov (.t 8))⟩,
          ⟨(some 42), none, (.mov (.t 1))⟩,
          ⟨(some 43), none, (.len false (.t 42))⟩,
          ⟨(some 44), none, (.bin .lss (.t 41) (.t 43))⟩])
        (.cnd (.t 44)
          .skip
          (.exit 0)))
        (.seq (.blk 1 (.seq (.ops [⟨(some 47), none, (.mov (.t 3))⟩,
            ⟨(some 48), none, (.nck (.t 47))⟩,
            ⟨(some 49), none, (.flA 2 (.t 48))⟩,
            ⟨(some 50), none, (.ld 1 false (.t 49))⟩,
            ⟨(some 51), none, (.mov (.t 1))⟩,
            ⟨(some 52), none, (.mov (.t 8))⟩,
            ⟨(some 53), none, (.ixA 1 (.t 51) (.t 52))⟩,
            ⟨(some 54), none, (.ld 1 false (.t 53))⟩,
            ⟨(some 55), none, (.ixA 2 (.t 50) (.t 54))⟩,
            ⟨(some 9), none, (.mov (.t 55))⟩])
          (.ops [⟨(some 56), none, (.mov (.t 9))⟩,
            ⟨(some 57), none, (.mov (.t 9))⟩,
            ⟨(some 58), none, (.mov (.t 9))⟩,
            ⟨(some 59), none, (.nck (.t 58))⟩,
            ⟨(some 60), none, (.flA 0 (.t 59))⟩,
            ⟨(some 61), none, (.ld 1 false (.t 60))⟩,
            ⟨(some 62), none, (.mov (.t 2))⟩,
            ⟨(some 63), none, (.mov (.t 8))⟩,
            ⟨(some 64), none, (.bin .add (.t 63) (.k (.int .i64 1)))⟩,
            ⟨(some 65), none, (.ixA 1 (.t 62) (.t 64))⟩,
            ⟨(some 66), none, (.ld 1 false (.t 65))⟩,
            ⟨(some 67), none, (.mxi false (.t 61) (.t 66))⟩,
            ⟨(some 68), none, (.mov (.t 9))⟩,
            ⟨(some 69), none, (.nck (.t 68))⟩,
            ⟨(some 70), none, (.flA 1 (.t 69))⟩,
            ⟨(some 71), none, (.ld 1 false (.t 70))⟩,
            ⟨(some 72), none, (.mov (.t 2))⟩,
            ⟨(some 73), none, (.mov (.t 8))⟩,
            ⟨(some 74), none, (.bin .add (.t 73) (.k (.int .i64 1)))⟩,
            ⟨(some 75), none, (.ixA 1 (.t 72) (.t 74))⟩,
            ⟨(some 76), none, (.ld 1 false (.t 75))⟩,
            ⟨(some 77), none, (.mxi true (.t 71) (.t 76))⟩,
            ⟨(some 78), none, (.nck (.t 56))⟩,
            ⟨(some 79), none, (.flA 0 (.t 78))⟩,
            ⟨none, none, (.st 1 (.t 79) (.t 67))⟩,
            ⟨(some 80), none, (.nck (.t 57))⟩,
            ⟨(some 81), none, (.flA 1 (.t 80))⟩,
            ⟨none, none, (.st 1 (.t 81) (.t 77))⟩])))
        (.ops [⟨(some 45), none, (.mov (.t 8))⟩,
          ⟨(some 46), none, (.bin .add (.t 45) (.k (.int .i64 1)))⟩,
          ⟨(some 8), none, (.mov (.t 46))⟩]))))))
    (.seq (.seq (.ops [⟨(some 10), none, (.mov (.k (.int .i64 0)))⟩])
    (.blk 2 (.loop (.seq (.seq (.ops [⟨(some 82), none, (.mov (.t 10))⟩,
          ⟨(some 83), none, (.mov (.t 3))⟩,
          ⟨(some 84), none, (.nck (.t 83))⟩,
          ⟨(some 85), none, (.flA 3 (.t 84))⟩,
          ⟨(some 86), none, (.ld 1 false (.t 85))⟩,
          ⟨(some 87), none, (.len false (.t 86))⟩,
          ⟨(some 88), none, (.bin .lss (.t 82) (.t 87))⟩])
        (.cnd (.t 88)
          .skip
          (.exit 2)))
        (.seq (.blk 3 (.ops [⟨(some 91), none, (.mov (.t 3))⟩,
            ⟨(some 92), none, (.nck (.t 91))⟩,
            ⟨(some 93), none, (.flA 3 (.t 92))⟩,
            ⟨(some 94), none, (.ld 1 false (.t 93))⟩,
            ⟨(some 95), none, (.mov (.t 10))⟩,
            ⟨(some 96), none, (.ixA 1 (.t 94) (.t 95))⟩,
            ⟨(some 97), none, (.ld 1 false (.t 96))⟩,
            ⟨(some 98), none, (.ld 4 true (.t 4))⟩,
            ⟨(some 99), none, (.mov (.t 1))⟩,
            ⟨(some 100), none, (.mov (.t 2))⟩,
            ⟨(some 101), none, (.mov (.t 10))⟩,
            ⟨(some 102), none, (.callF 85 [(.t 98), (.t 99), (.t 100), (.t 101)])⟩,
            ⟨none, none, (.chk 1 false (.t 93) 94)⟩,
            ⟨none, none, (.chk 1 false (.t 96) 97)⟩,
            ⟨(some 103), none, (.bin .add (.t 102) (.k (.int .i64 1)))⟩,
            ⟨(some 104), none, (.ixA 1 (.t 97) (.t 103))⟩,
            ⟨none, none, (.st 1 (.t 104) (.k (.bool true)))⟩]))
        (.ops [⟨(some 89), none, (.mov (.t 10))⟩,
          ⟨(some 90), none, (.bin .add (.t 89) (.k (.int .i64 1)))⟩,
          ⟨(some 10), none, (.mov (.t 90))⟩]))))))
    .ret)))
    .skip))
  (.seq (.ops [⟨(some 105), none, (.flA 1 (.t 4))⟩,
    ⟨(some 106), none, (.ld 2 true (.t 105))⟩,
    ⟨(some 11), none, (.new [(.int .i64 0), (.int .i64 0)])⟩,
    ⟨none, none, (.st 2 (.t 11) (.t 106))⟩])
  (.seq (.seq (.ops [⟨(some 107), none, (.mov (.t 2))⟩,
    ⟨(some 108), none, (.len false (.t 107))⟩,
    ⟨(some 109), none, (.bin .gtr (.t 108) (.k (.int .i64 0)))⟩])
  (.cnd (.t 109)
    (.ops [⟨(some 110), none, (.flA 3 (.t 4))⟩,
      ⟨(some 111), none, (.ld 1 false (.t 110))⟩,
      ⟨(some 112), none, (.mov (.t 1))⟩,
      ⟨(some 113), none, (.mov (.t 2))⟩,
      ⟨(some 114), none, (.len false (.t 113))⟩,
      ⟨(some 115), none, (.bin .sub (.t 114) (.k (.int .i64 1)))⟩,
      ⟨(some 116), none, (.ixA 1 (.t 112) (.t 115))⟩,
      ⟨(some 117), none, (.ld 1 false (.t 116))⟩,
      ⟨(some 118), none, (.ixA 4 (.t 111) (.t 117))⟩,
      ⟨(some 119), none, (.flA 2 (.t 118))⟩,
      ⟨(some 120), none, (.ld 2 true (.t 119))⟩,
      ⟨none, none, (.st 2 (.t 11) (.t 120))⟩])
    .skip))
  (.seq (.ops [⟨(some 121), none, (.flA 0 (.t 11))⟩,
    ⟨(some 122), none, (.ld 1 false (.t 121))⟩,
    ⟨(some 12), none, (.mov (.t 122))⟩])
  (.blk 4 (.loop (.seq (.seq (.ops [⟨(some 123), none, (.mov (.t 12))⟩,
        ⟨(some 124), none, (.flA 1 (.t 11))⟩,
        ⟨(some 125), none, (.ld 1 false (.t 124))⟩,
        ⟨(some 126), none, (.bin .leq (.t 123) (.t 125))⟩])
      (.cnd (.t 126)
        .skip
        (.exit 4)))
      (.seq (.blk 5 (.seq (.ops [⟨(some 129), none, (.mov (.t 2))⟩,
          ⟨(some 130), none, (.len false (.t 129))⟩,
          ⟨(some 131), none, (.bin .eql (.t 130) (.k (.int .i64 0)))⟩,
          ⟨(some 132), none, (.mov (.t 131))⟩,
          ⟨(some 133), (some (132, false)), (.mov (.t 12))⟩,
          ⟨(some 134), (some (132, false)), (.mov (.t 2))⟩,
          ⟨(some 135), (some (132, false)), (.mov (.t 2))⟩,
          ⟨(some 136), (some (132, false)), (.len false (.t 135))⟩,
          ⟨(some 137), (some (132, false)), (.bin .sub (.t 136) (.k (.int .i64 1)))⟩,
          ⟨(some 138), (some (132, false)), (.ixA 1 (.t 134) (.t 137))⟩,
          ⟨(some 139), (some (132, false)), (.ld 1 false (.t 138))⟩,
          ⟨(some 140), (some (132, false)), (.bin .gtr (.t 133) (.t 139))⟩,
          ⟨(some 141), none, (.pick (.t 132) (.k (.bool true)) (.t 140))⟩])
        (.cnd (.t 141)
          (.ops [⟨(some 142), none, (.ld 4 true (.t 4))⟩,
            ⟨(some 143), none, (.mov (.t 1))⟩,
            ⟨(some 144), none, (.mov (.t 2))⟩,
            ⟨(some 146), none, (.mov (.t 12))⟩,
            ⟨(some 147), none, (.bsl 1 [[(.int .i64 0)]] [(0, (.t 146))])⟩,
            ⟨(some 149), none, (.mov (.t 3))⟩,
            ⟨(some 145), none, (.callF 58 [(.t 144)])⟩,
            ⟨none, none, (.chk 4 true (.t 4) 142)⟩,
            ⟨(some 148), none, (.app 1 8 (.t 145) (.t 147) 148)⟩,
            ⟨none, none, (.chk 4 true (.t 4) 142)⟩,
            ⟨(some 150), none, (.callF 35 [(.t 142), (.t 143), (.t 148), (.t 149)])⟩])
          .skip)))
      (.ops [⟨(some 127), none, (.mov (.t 12))⟩,
        ⟨(some 128), none, (.bin .add (.t 127) (.k (.int .i64 1)))⟩,
        ⟨(some 12), none, (.mov (.t 128))⟩]))))))))))⟩
def hint35 (P : Program) : Hint := {}
/-- The links' words behind a story. -/
def tellF (ds : List Int) : List Int → Nat → (Nat → Int) → (Nat → Int)
  | [], _, F => F
  | i :: r, j, F => tellF ds r (j + 1) (setF (setF F (i.toNat * 2 + 0) (min (F (i.toNat * 2 + 0)) (getI ds (j + 1 : Nat)))) (i.toNat * 2 + 1) (max (F (i.toNat * 2 + 1)) (getI ds (j + 1 : Nat))))
def tellB (c : Chn) (o ds : List Int) (n : Nat) (f : Nat → Nat → Bool) : Nat → Nat → Bool := fun d k => f d k || (decide (d < n) && decide (k = (hoR c o (-1) 0 ds d + 1).toNat))
def tell1 (c : Chn) (o ds : List Int) (S : Told) : Told := ⟨min S.lo (getI ds (0 : Nat)), max S.hi (getI ds (0 : Nat)), tellF ds o 0 S.F, tellB c o ds 30 S.f⟩
theorem tellB_zero (c : Chn) (o ds : List Int) (f : Nat → Nat → Bool) : tellB c o ds 0 f = f := by
  funext d k
  simp [tellB]
theorem tellB_succ (c : Chn) (o ds : List Int) (n : Nat) (f : Nat → Nat → Bool) : setB (tellB c o ds n f) n (hoR c o (-1) 0 ds n + 1).toNat = tellB c o ds (n + 1) f := by
  funext d k
  unfold setB tellB
  by_cases h : d = n
  · subst h
    by_cases h2 : k = (hoR c o (-1) 0 ds d + 1).toNat
    · simp [h2]
    · simp [h2]
  · rw [if_neg h]
    have : decide (d < n) = decide (d < n + 1) := by by_cases h3 : d < n <;> simp [h3] <;> omega
    rw [this]
theorem hoR_bd {c : Chn} {o : List Int} (hc : -1 ≤ c.maker ∧ c.maker ≤ 19) (hl : ∀ i : Int, -1 ≤ (lkAt c.ls i).t ∧ (lkAt c.ls i).t ≤ 19) (day : Int) : ∀ (ds : List Int) (h : Int) (i : Nat), -1 ≤ h ∧ h ≤ 19 → -1 ≤ hoR c o h i ds day ∧ hoR c o h i ds day ≤ 19
  | [], h, i, hh => hh
  | d :: r, h, i, hh => by
    rw [hoR]
    split
    · exact hh
    · refine hoR_bd hc hl day r _ _ ?_
      cases i with
      | zero => exact hc
      | succ i => exact hl _
theorem tell_leaf (c : Chn) (ok : Okc c) (o ds : List Int) (G : TPl) (S : Told) (hG : G.tg = .non) (hn : G.nL = c.ls.length) (hb : ∀ i ∈ o, 0 ≤ i ∧ i < c.ls.length) (hl : o.length ≤ 4) (hd : ds.length = o.length + 1) (hmk : -1 ≤ c.maker ∧ c.maker ≤ 19) (htl : ∀ i : Int, -1 ≤ (lkAt c.ls i).t ∧ (lkAt c.ls i).t ≤ 19) :
    RawC Try.prog 35 [cA c, .slc 1 (iR o) .non, .slc 1 (iR ds) .non, .ref 1000 G.gp 0] (sg (tRows 1000 1001 1002 G S)) (fun v σ' => v = .tup [] ∧ slots (tRows 1000 1001 1002 G (tell1 c o ds S)) σ') := by
  have hok := ok.n
  obtain ⟨d0, dr, rfl⟩ : ∃ d0 dr, ds = d0 :: dr := by
    cases ds with
    | nil => simp at hd
    | cons d0 dr => exact ⟨_, _, rfl⟩
  refine RawC.walk (H := hint35 Try.prog) ir35 Try.func35 rfl rfl rfl ?_
  unfold ir35
  rw [sg_updL]
  obtain ⟨gp, gq, gr, nL, hs, tg⟩ := G
  obtain rfl : tg = .non := hG
  dsimp only at hn ⊢
  have h00 : (d0 :: dr)[0]? = some d0 := rfl
  have e00 : getI (d0 :: dr) (0 : Nat) = d0 := rfl
  obtain ⟨T, hT⟩ : ∃ T, T = tell1 c o (d0 :: dr) S := ⟨_, rfl⟩
  rw [← hT]
  have hTF : T.F = tellF (d0 :: dr) o 0 S.F := by rw [hT]; rfl
  have hTl : T.lo = min S.lo d0 := by rw [hT]; rfl
  have hTh : T.hi = max S.hi d0 := by rw [hT]; rfl
  have hTf : T.f = tellB c o (d0 :: dr) 30 S.f := by rw [hT]; rfl
  have hH : ∀ day : Int, Fn0 Try.prog 85 [cA c, .slc 1 (iR o) .non, .slc 1 (iR (d0 :: dr)) .non, .int .i64 day] (fun v => v = .int .i64 (hoR c o (-1) 0 (d0 :: dr) day)) := fun day => holderOn_c c o (d0 :: dr) day hb (by omega) (by omega) (by omega)
  have hHb : ∀ day : Int, -1 ≤ hoR c o (-1) 0 (d0 :: dr) day ∧ hoR c o (-1) 0 (d0 :: dr) day ≤ 19 := fun day => hoR_bd hmk htl day _ _ _ (by omega)
  have hd2 : dr.length = o.length := by simpa using hd
  clear hT
  repeat' (first
    | with_reducible (first | refine Rd.p ?_ | refine w_alt ?_ ?_ | refine zE ?_ | refine zE0 ?_)
    | (first | refine w_stP rfl rfl ?_ | refine w_ixE h00 rfl rfl ?_)
    | with_reducible (first | refine zI fun y hy => ?_ | refine zL ?_ | refine zS ?_ | refine zA fun _ => ?_ | refine zV ?_ | refine zC ?_ | refine zG ?_ | refine zU ?_ | refine zG0 ?_ | refine zU0 ?_ | refine zF ?_)
    | with_reducible (first | refine zX ?_ | refine zD fun _ => ?_ | refine zD0 ?_ | refine zN ?_ | refine zF0 ?_ | refine zX0 ?_ | refine z1 ?_ | refine z2 ?_ | refine z3 ?_ | refine z4 ?_ | refine z5 ?_ | refine z6 ?_ | refine z7 ?_ | refine z8 ?_ | refine y1 ?_ | refine y2 ?_ | refine y3 ?_ | refine y4 ?_ | refine y5 ?_ | refine y6 ?_ | refine y7 ?_ | refine y8 ?_ | refine Rt.p (fun _ => ?_) fun _ => ?_)
    | ((with_reducible apply w_ixM); (focus exact rfl); (focus exact rfl); case' hk => intro y hy) | ((with_reducible (first | apply w_val | apply q_ends)); (focus exact rfl)))
  rename_i g4
  rw [← hTl, ← hTh]
  refine w_loopK [1, 2, 3, 4] [] (fun x : List Int × List Int × (Nat → Int) => o = x.1 ++ x.2.1 ∧ T.F = tellF (d0 :: dr) x.2.1 x.1.length x.2.2) (fun x => x.2.1.length) (fun x => [(8, .int .i64 x.1.length)]) (fun x => (4, (g4, .row (cC c))) :: tRows 1000 1001 1002 ⟨gp, gq, gr, nL, hs, .non⟩ ⟨T.lo, T.hi, x.2.2, S.f⟩) ([], o, S.F) ⟨rfl, hTF⟩ ⟨rfl, trivial⟩ t_slots4 ?_
  rintro ⟨pre, post, F⟩ ⟨hpp, hF⟩ e σ
  dsimp only at hpp hF ⊢
  have hlen := congrArg List.length hpp
  rw [List.length_append] at hlen
  cases post with
  | cons i post =>
    simp only [List.length_cons] at hlen
    have hi9 := hb i (by rw [hpp]; simp)
    obtain ⟨nM, rfl⟩ : ∃ m, nL = m + 1 := ⟨nL - 1, by omega⟩
    have hgi : o[pre.length]? = some i := by rw [hpp]; simp
    obtain ⟨hi0, hi1⟩ := hb i (by rw [hpp]; simp)
    obtain ⟨z, hz⟩ : ∃ z, (d0 :: dr)[pre.length + 1]? = some z := ⟨_, List.getElem?_eq_getElem (by simp; omega)⟩
    have hgz : getI (d0 :: dr) (pre.length + 1 : Nat) = z := getI_of (by rw [Int.toNat_natCast]; exact hz)
    have hF2 : T.F = tellF (d0 :: dr) post (pre.length + 1) (setF (setF F (i.toNat * 2 + 0) (min (F (i.toNat * 2 + 0)) z)) (i.toNat * 2 + 1) (max (F (i.toNat * 2 + 1)) z)) := by rw [hF, tellF, hgz]
    repeat' (first
      | with_reducible (first | refine Rd.p ?_ | refine w_alt ?_ ?_ | refine zE ?_ | refine zE0 ?_)
      | (first | refine w_ixE hgi rfl rfl ?_ | refine w_ixE hz rfl (by show AV.int .i64 _ = AV.int .i64 _; refine int_eq ?_; omega) ?_ | refine w_ldQ rfl (by dsimp only; omega) ?_ | refine w_stQ rfl rfl (by dsimp only; omega) ?_)
      | with_reducible (first | refine zI fun y hy => ?_ | refine zL ?_ | refine zS ?_ | refine zA fun _ => ?_ | refine zV ?_ | refine zC ?_ | refine zG ?_ | refine zU ?_ | refine zG0 ?_ | refine zU0 ?_ | refine zF ?_)
      | with_reducible (first | refine zX ?_ | refine zD fun _ => ?_ | refine zD0 ?_ | refine zN ?_ | refine zF0 ?_ | refine zX0 ?_ | refine z1 ?_ | refine z2 ?_ | refine z3 ?_ | refine z4 ?_ | refine z5 ?_ | refine z6 ?_ | refine z7 ?_ | refine z8 ?_ | refine y1 ?_ | refine y2 ?_ | refine y3 ?_ | refine y4 ?_ | refine y5 ?_ | refine y6 ?_ | refine y7 ?_ | refine y8 ?_ | refine Rt.p (fun _ => ?_) fun _ => ?_)
      | ((with_reducible apply w_ixM); (focus exact rfl); (focus exact rfl); case' hk => intro y hy) | ((with_reducible (first | apply w_val | apply q_ends)); (focus exact rfl)))
    exact q_loop (pre ++ [i], post, _) ⟨by show o = _; rw [hpp]; simp, by show T.F = tellF _ post (pre ++ [i]).length _; rw [List.length_append]; exact hF2⟩ (by simp) (slots_cons (by show AV.int .i64 _ = AV.int .i64 _; refine int_eq ?_; simp) slots_nil) t_slots4 (by repeat' (first | exact kept_nil | apply kept_cons | rfl)) (by repeat' (first | exact kept_nil | apply kept_cons | rfl))
  | nil =>
    simp only [List.length_nil] at hlen
    obtain rfl : F = T.F := hF.symm
    repeat' (first
      | with_reducible (first | refine Rd.p ?_ | refine w_alt ?_ ?_ | refine zE ?_ | refine zE0 ?_)
      | with_reducible (first | refine zI fun y hy => ?_ | refine zL ?_ | refine zS ?_ | refine zA fun _ => ?_ | refine zV ?_ | refine zC ?_ | refine zG ?_ | refine zU ?_ | refine zG0 ?_ | refine zU0 ?_ | refine zF ?_)
      | with_reducible (first | refine zX ?_ | refine zD fun _ => ?_ | refine zD0 ?_ | refine zN ?_ | refine zF0 ?_ | refine zX0 ?_ | refine z1 ?_ | refine z2 ?_ | refine z3 ?_ | refine z4 ?_ | refine z5 ?_ | refine z6 ?_ | refine z7 ?_ | refine z8 ?_ | refine y1 ?_ | refine y2 ?_ | refine y3 ?_ | refine y4 ?_ | refine y5 ?_ | refine y6 ?_ | refine y7 ?_ | refine y8 ?_ | refine Rt.p (fun _ => ?_) fun _ => ?_)
      | ((with_reducible apply w_ixM); (focus exact rfl); (focus exact rfl); case' hk => intro y hy) | ((with_reducible (first | apply w_val | apply q_ends)); (focus exact rfl)))
    refine w_loopK [1, 2, 3, 4] [] (fun d : Nat => d ≤ 30) (fun d => 30 - d) (fun d => [(10, .int .i64 d)]) (fun d => (4, (g4, .row (cC c))) :: tRows 1000 1001 1002 ⟨gp, gq, gr, nL, hs, .non⟩ ⟨T.lo, T.hi, T.F, tellB c o (d0 :: dr) d S.f⟩) 0 (by decide) ⟨rfl, trivial⟩ (by rw [tellB_zero]; exact t_slots4) ?_
    rintro d hd30 e σ
    try dsimp only at hd30 ⊢
    by_cases hdd : d = 30
    · subst hdd
      rw [← hTf]
      repeat' (first
        | with_reducible (first | refine Rd.p ?_ | refine w_alt ?_ ?_ | refine zE ?_ | refine zE0 ?_)
        | with_reducible (first | refine zI fun y hy => ?_ | refine zL ?_ | refine zS ?_ | refine zA fun _ => ?_ | refine zV ?_ | refine zC ?_ | refine zG ?_ | refine zU ?_ | refine zG0 ?_ | refine zU0 ?_ | refine zF ?_)
        | with_reducible (first | refine zX ?_ | refine zD fun _ => ?_ | refine zD0 ?_ | refine zN ?_ | refine zF0 ?_ | refine zX0 ?_ | refine z1 ?_ | refine z2 ?_ | refine z3 ?_ | refine z4 ?_ | refine z5 ?_ | refine z6 ?_ | refine z7 ?_ | refine z8 ?_ | refine y1 ?_ | refine y2 ?_ | refine y3 ?_ | refine y4 ?_ | refine y5 ?_ | refine y6 ?_ | refine y7 ?_ | refine y8 ?_ | refine Rt.p (fun _ => ?_) fun _ => ?_)
        | ((with_reducible apply w_ixM); (focus exact rfl); (focus exact rfl); case' hk => intro y hy) | ((with_reducible (first | apply w_val | apply q_ends)); (focus exact rfl)))
      exact ⟨rfl, (t_slots4 (Y := (g4, .row (cC c))) (S := T)).2⟩
    have hHd := hH (d : Int)
    obtain ⟨hw1, hw2⟩ := hHb (d : Int)
    have hB := tellB_succ c o (d0 :: dr) d S.f
    generalize hoR c o (-1) 0 (d0 :: dr) (d : Int) = w at *
    generalize tellB c o (d0 :: dr) d S.f = f0 at *
    repeat' (first
      | with_reducible (first | refine Rd.p ?_ | refine w_alt ?_ ?_ | refine zE ?_ | refine zE0 ?_)
      | (first | refine w_ldC4 rfl (by omega) ?_ | refine w_chkC rfl (by omega) rfl ?_ | refine w_stD rfl rfl (by omega) (by omega) ?_)
      | with_reducible (first | refine zI fun y hy => ?_ | refine zL ?_ | refine zS ?_ | refine zA fun _ => ?_ | refine zV ?_ | refine zC ?_ | refine zG ?_ | refine zU ?_ | refine zG0 ?_ | refine zU0 ?_ | refine zF ?_)
      | ((with_reducible refine acall_id ?_); refine ACall.val hHd rfl rfl ?_)
      | with_reducible (first | refine zX ?_ | refine zD fun _ => ?_ | refine zD0 ?_ | refine zN ?_ | refine zF0 ?_ | refine zX0 ?_ | refine z1 ?_ | refine z2 ?_ | refine z3 ?_ | refine z4 ?_ | refine z5 ?_ | refine z6 ?_ | refine z7 ?_ | refine z8 ?_ | refine y1 ?_ | refine y2 ?_ | refine y3 ?_ | refine y4 ?_ | refine y5 ?_ | refine y6 ?_ | refine y7 ?_ | refine y8 ?_ | refine Rt.p (fun _ => ?_) fun _ => ?_)
      | ((with_reducible apply w_ixM); (focus exact rfl); (focus exact rfl); case' hk => intro y hy) | ((with_reducible (first | apply w_val | apply q_ends)); (focus exact rfl)))
    exact q_loop (d + 1) (by show d + 1 ≤ 30; omega) (by show 30 - (d + 1) < 30 - d; omega) (slots_cons (by show AV.int .i64 _ = AV.int .i64 _; refine int_eq ?_; simp) slots_nil) (by have e1 : ((d : Int)).toNat * 1 = d := (by omega); have e2 : (w + 1).toNat * 1 = (w + 1).toNat := Nat.mul_one _; rw [e1, e2, ← hB]; exact t_slots4) (by repeat' (first | exact kept_nil | apply kept_cons | rfl)) (by repeat' (first | exact kept_nil | apply kept_cons | rfl))
end Go.Abs
