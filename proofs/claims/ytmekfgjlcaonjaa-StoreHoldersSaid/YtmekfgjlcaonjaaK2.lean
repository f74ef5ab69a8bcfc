/- A part of the proofs of the laws of this seat: contracts of the functions that they reach, each proved of the program's form in Lean. No condition beyond those that each contract names. -/
import Derived.Test.YtmekfgjlcaonjaaK1
import Derived.Test.YtmekfgjlcaonjaaD1
import Derived.Test.YtmekfgjlcaonjaaC13
import Derived.Test.YtmekfgjlcaonjaaC12
import Derived.Test.YtmekfgjlcaonjaaC11
import Derived.Test.YtmekfgjlcaonjaaC10
import Derived.Test.YtmekfgjlcaonjaaC9
import Derived.Test.YtmekfgjlcaonjaaC8
import Derived.Test.YtmekfgjlcaonjaaC7
import Derived.Test.YtmekfgjlcaonjaaC5
import Derived.Test.YtmekfgjlcaonjaaC4
import Derived.Test.YtmekfgjlcaonjaaC2
import Derived.Test.YtmekfgjlcaonjaaC1
import Derived.Test.YtmekfgjlcaonjaaB
import Derived.Test.YtmekfgjlcaonjaaC3
import Derived.Test.YtmekfgjlcaonjaaD8
set_option linter.unusedVariables false
set_option linter.unusedSimpArgs false
set_option maxRecDepth 20000
set_option maxHeartbeats 4000000
namespace Go.Abs
open Go.Proofs
/-- aloeswood/aloeswoodref09.stories -/
def ir120 : IFn :=
  ⟨82, [(8, none)], (.seq (.ops [⟨(some 4), none, (.box 4 (.t 0))⟩,
    ⟨(some 8), none, (.mov (.k .nsl))⟩])
  (.seq (.seq (.ops [⟨(some 14), none, (.mov (.t 1))⟩,
    ⟨(some 15), none, (.len false (.t 14))⟩,
    ⟨(some 16), none, (.flA 3 (.t 4))⟩,
    ⟨(some 17), none, (.ld 1 false (.t 16))⟩,
    ⟨(some 18), none, (.len false (.t 17))⟩,
    ⟨(some 19), none, (.bin .eql (.t 15) (.t 18))⟩])
  (.cnd (.t 19)
    (.seq (.seq (.ops [⟨(some 21), none, (.ld 4 true (.t 4))⟩,
      ⟨(some 22), none, (.mov (.t 1))⟩,
      ⟨(some 23), none, (.callF 130 [(.t 21), (.t 22)])⟩,
      ⟨(some 20), none, (.mov (.t 23))⟩,
      ⟨(some 24), none, (.ext 0 (.t 20))⟩,
      ⟨(some 25), none, (.ext 1 (.t 20))⟩,
      ⟨(some 9), none, (.new [.nsl, .nsl, .nsl])⟩,
      ⟨none, none, (.st 3 (.t 9) (.t 24))⟩,
      ⟨(some 10), none, (.mov (.t 25))⟩])
    (.seq (.ops [⟨(some 26), none, (.mov (.t 10))⟩])
    (.cnd (.t 26)
      (.ops [⟨(some 27), none, (.mov (.t 3))⟩,
        ⟨(some 28), none, (.ld 3 true (.t 9))⟩,
        ⟨(some 29), none, (.bsl 3 [[.nsl, .nsl, .nsl]] [(0, (.t 28))])⟩,
        ⟨(some 30), none, (.app 3 72 (.t 27) (.t 29) 80)⟩,
        ⟨(some 3), none, (.mov (.t 30))⟩])
      .skip)))
    (.seq (.ops [⟨(some 31), none, (.mov (.t 3))⟩,
      ⟨(some 8), none, (.mov (.t 31))⟩])
    .ret))
    .skip))
  (.seq (.seq (.ops [⟨(some 11), none, (.mov (.k (.int .i64 0)))⟩])
  (.blk 0 (.loop (.seq (.seq (.ops [⟨(some 32), none, (.mov (.t 11))⟩,
        ⟨(some 33), none, (.flA 3 (.t 4))⟩,
        ⟨(some 34), none, (.ld 1 false (.t 33))⟩,
        ⟨(some 35), none, (.len false (.t 34))⟩,
        ⟨(some 36), none, (.bin .lss (.t 32) (.t 35))⟩])
      (.cnd (.t 36)
        .skip
        (.exit 0)))
      (.seq (.blk 1 (.seq (.ops [⟨(some 12), none, (.mov (.k (.bool false)))⟩])
        (.seq (.seq (.ops [⟨(some 13), none, (.mov (.k (.int .i64 0)))⟩])
        (.blk 2 (.loop (.seq (.seq (.ops [⟨(some 39), none, (.mov (.t 13))⟩,
              ⟨(some 40), none, (.mov (.t 1))⟩,
              ⟨(some 41), none, (.len false (.t 40))⟩,
              ⟨(some 42), none, (.bin .lss (.t 39) (.t 41))⟩])
            (.cnd (.t 42)
              .skip
              (.exit 2)))
            (.seq (.blk 3 (.ops [⟨(some 45), none, (.mov (.t 12))⟩,
                ⟨(some 46), none, (.mov (.t 45))⟩,
                ⟨(some 47), (some (46, false)), (.mov (.t 1))⟩,
                ⟨(some 48), (some (46, false)), (.mov (.t 13))⟩,
                ⟨(some 49), (some (46, false)), (.ixA 1 (.t 47) (.t 48))⟩,
                ⟨(some 50), (some (46, false)), (.ld 1 false (.t 49))⟩,
                ⟨(some 51), (some (46, false)), (.mov (.t 11))⟩,
                ⟨(some 52), (some (46, false)), (.bin .eql (.t 50) (.t 51))⟩,
                ⟨(some 53), none, (.pick (.t 46) (.k (.bool true)) (.t 52))⟩,
                ⟨(some 12), none, (.mov (.t 53))⟩]))
            (.ops [⟨(some 43), none, (.mov (.t 13))⟩,
              ⟨(some 44), none, (.bin .add (.t 43) (.k (.int .i64 1)))⟩,
              ⟨(some 13), none, (.mov (.t 44))⟩]))))))
        (.seq (.ops [⟨(some 54), none, (.mov (.t 12))⟩,
          ⟨(some 55), none, (.not (.t 54))⟩,
          ⟨(some 56), none, (.mov (.t 55))⟩,
          ⟨(some 57), (some (56, true)), (.flA 3 (.t 4))⟩,
          ⟨(some 58), (some (56, true)), (.ld 1 false (.t 57))⟩,
          ⟨(some 59), (some (56, true)), (.mov (.t 11))⟩,
          ⟨(some 60), (some (56, true)), (.ixA 4 (.t 58) (.t 59))⟩,
          ⟨(some 61), (some (56, true)), (.flA 0 (.t 60))⟩,
          ⟨(some 62), (some (56, true)), (.ld 1 false (.t 61))⟩,
          ⟨(some 63), (some (56, true)), (.mov (.t 2))⟩,
          ⟨(some 64), (some (56, true)), (.bin .eql (.t 62) (.t 63))⟩,
          ⟨(some 65), none, (.pick (.t 56) (.t 64) (.k (.bool false)))⟩])
        (.cnd (.t 65)
          (.ops [⟨(some 66), none, (.ld 4 true (.t 4))⟩,
            ⟨(some 67), none, (.bsl 1 [] [])⟩,
            ⟨(some 68), none, (.mov (.t 1))⟩,
            ⟨(some 70), none, (.mov (.t 11))⟩,
            ⟨(some 71), none, (.bsl 1 [[(.int .i64 0)]] [(0, (.t 70))])⟩,
            ⟨(some 73), none, (.flA 3 (.t 4))⟩,
            ⟨(some 74), none, (.ld 1 false (.t 73))⟩,
            ⟨(some 75), none, (.mov (.t 11))⟩,
            ⟨(some 76), none, (.ixA 4 (.t 74) (.t 75))⟩,
            ⟨(some 77), none, (.flA 1 (.t 76))⟩,
            ⟨(some 78), none, (.ld 1 false (.t 77))⟩,
            ⟨(some 79), none, (.mov (.t 3))⟩,
            ⟨(some 69), none, (.app 1 8 (.t 67) (.t 68) 69)⟩,
            ⟨none, none, (.chk 4 true (.t 4) 66)⟩,
            ⟨none, none, (.chk 1 false (.t 73) 74)⟩,
            ⟨none, none, (.chk 1 false (.t 77) 78)⟩,
            ⟨(some 72), none, (.app 1 8 (.t 69) (.t 71) 72)⟩,
            ⟨none, none, (.chk 4 true (.t 4) 66)⟩,
            ⟨none, none, (.chk 1 false (.t 73) 74)⟩,
            ⟨none, none, (.chk 1 false (.t 77) 78)⟩,
            ⟨(some 80), none, (.callF 120 [(.t 66), (.t 72), (.t 78), (.t 79)])⟩,
            ⟨(some 3), none, (.mov (.t 80))⟩])
          .skip)))))
      (.ops [⟨(some 37), none, (.mov (.t 11))⟩,
        ⟨(some 38), none, (.bin .add (.t 37) (.k (.int .i64 1)))⟩,
        ⟨(some 11), none, (.mov (.t 38))⟩]))))))
  (.seq (.ops [⟨(some 81), none, (.mov (.t 3))⟩,
    ⟨(some 8), none, (.mov (.t 81))⟩])
  .ret))))⟩
def hint120 (P : Program) : Hint := { site := [(30, 80)], nils := [], frz := [], mve := [], wr := [] }
/-- aloeswood/aloeswoodref09.Stories -/
def ir78 : IFn :=
  ⟨7, [(2, none)], (.seq (.ops [⟨(some 1), none, (.box 4 (.t 0))⟩,
    ⟨(some 2), none, (.mov (.k .nsl))⟩])
  (.seq (.ops [⟨(some 3), none, (.ld 4 true (.t 1))⟩,
    ⟨(some 4), none, (.flA 0 (.t 1))⟩,
    ⟨(some 5), none, (.ld 1 false (.t 4))⟩,
    ⟨(some 6), none, (.callF 120 [(.t 3), (.k .nsl), (.t 5), (.k .nsl)])⟩,
    ⟨(some 2), none, (.mov (.t 6))⟩])
  .ret))⟩
def hint78 (P : Program) : Hint := {}
/-- aloeswood/aloeswoodref09.CheckChain -/
def ir27 : IFn :=
  ⟨58, [(2, none)], (.seq (.ops [⟨(some 1), none, (.box 4 (.t 0))⟩,
    ⟨(some 2), none, (.mov (.k (.int .i64 0)))⟩])
  (.seq (.seq (.ops [⟨(some 7), none, (.flA 0 (.t 1))⟩,
    ⟨(some 8), none, (.ld 1 false (.t 7))⟩,
    ⟨(some 9), none, (.callF 83 [(.t 8), (.k (.int .i64 0)), (.k (.int .i64 19))])⟩,
    ⟨(some 10), none, (.not (.t 9))⟩])
  (.cnd (.t 10)
    (.seq (.ops [⟨(some 2), none, (.mov (.k (.int .i64 2)))⟩])
    .ret)
    .skip))
  (.seq (.seq (.ops [⟨(some 11), none, (.flA 1 (.t 1))⟩,
    ⟨(some 12), none, (.ld 2 true (.t 11))⟩,
    ⟨(some 13), none, (.callF 84 [(.t 12)])⟩,
    ⟨(some 3), none, (.mov (.t 13))⟩])
  (.seq (.ops [⟨(some 14), none, (.mov (.t 3))⟩,
    ⟨(some 15), none, (.bin .neq (.t 14) (.k (.int .i64 0)))⟩])
  (.cnd (.t 15)
    (.seq (.ops [⟨(some 16), none, (.mov (.t 3))⟩,
      ⟨(some 2), none, (.mov (.t 16))⟩])
    .ret)
    .skip)))
  (.seq (.seq (.ops [⟨(some 17), none, (.flA 3 (.t 1))⟩,
    ⟨(some 18), none, (.ld 1 false (.t 17))⟩,
    ⟨(some 19), none, (.len false (.t 18))⟩,
    ⟨(some 20), none, (.bin .gtr (.t 19) (.k (.int .i64 7)))⟩])
  (.cnd (.t 20)
    (.seq (.ops [⟨(some 2), none, (.mov (.k (.int .i64 8)))⟩])
    .ret)
    .skip))
  (.seq (.seq (.ops [⟨(some 4), none, (.mov (.k (.int .i64 0)))⟩])
  (.blk 0 (.loop (.seq (.seq (.ops [⟨(some 21), none, (.mov (.t 4))⟩,
        ⟨(some 22), none, (.flA 3 (.t 1))⟩,
        ⟨(some 23), none, (.ld 1 false (.t 22))⟩,
        ⟨(some 24), none, (.len false (.t 23))⟩,
        ⟨(some 25), none, (.bin .lss (.t 21) (.t 24))⟩])
      (.cnd (.t 25)
        .skip
        (.exit 0)))
      (.seq (.blk 1 (.seq (.ops [⟨(some 28), none, (.flA 3 (.t 1))⟩,
          ⟨(some 29), none, (.ld 1 false (.t 28))⟩,
          ⟨(some 30), none, (.mov (.t 4))⟩,
          ⟨(some 31), none, (.ixA 4 (.t 29) (.t 30))⟩,
          ⟨(some 32), none, (.ld 4 true (.t 31))⟩,
          ⟨(some 5), none, (.new [(.int .i64 0), (.int .i64 0), (.int .i64 0), (.int .i64 0)])⟩,
          ⟨none, none, (.st 4 (.t 5) (.t 32))⟩])
        (.seq (.seq (.ops [⟨(some 33), none, (.flA 0 (.t 5))⟩,
          ⟨(some 34), none, (.ld 1 false (.t 33))⟩,
          ⟨(some 35), none, (.callF 83 [(.t 34), (.k (.int .i64 0)), (.k (.int .i64 19))])⟩,
          ⟨(some 36), none, (.not (.t 35))⟩,
          ⟨(some 37), none, (.mov (.t 36))⟩,
          ⟨(some 38), (some (37, false)), (.flA 1 (.t 5))⟩,
          ⟨(some 39), (some (37, false)), (.ld 1 false (.t 38))⟩,
          ⟨(some 40), (some (37, false)), (.callF 83 [(.t 39), (.k (.int .i64 0)), (.k (.int .i64 19))])⟩,
          ⟨(some 41), (some (37, false)), (.not (.t 40))⟩,
          ⟨(some 42), none, (.pick (.t 37) (.k (.bool true)) (.t 41))⟩])
        (.cnd (.t 42)
          (.seq (.ops [⟨(some 2), none, (.mov (.k (.int .i64 2)))⟩])
          .ret)
          .skip))
        (.seq (.seq (.ops [⟨(some 43), none, (.flA 0 (.t 5))⟩,
          ⟨(some 44), none, (.ld 1 false (.t 43))⟩,
          ⟨(some 45), none, (.flA 1 (.t 5))⟩,
          ⟨(some 46), none, (.ld 1 false (.t 45))⟩,
          ⟨(some 47), none, (.bin .eql (.t 44) (.t 46))⟩])
        (.cnd (.t 47)
          (.seq (.ops [⟨(some 2), none, (.mov (.k (.int .i64 3)))⟩])
          .ret)
          .skip))
        (.seq (.ops [⟨(some 48), none, (.flA 2 (.t 5))⟩,
          ⟨(some 49), none, (.ld 2 true (.t 48))⟩,
          ⟨(some 50), none, (.callF 84 [(.t 49)])⟩,
          ⟨(some 6), none, (.mov (.t 50))⟩])
        (.seq (.ops [⟨(some 51), none, (.mov (.t 6))⟩,
          ⟨(some 52), none, (.bin .neq (.t 51) (.k (.int .i64 0)))⟩])
        (.cnd (.t 52)
          (.seq (.ops [⟨(some 53), none, (.mov (.t 6))⟩,
            ⟨(some 2), none, (.mov (.t 53))⟩])
          .ret)
          .skip)))))))
      (.ops [⟨(some 26), none, (.mov (.t 4))⟩,
        ⟨(some 27), none, (.bin .add (.t 26) (.k (.int .i64 1)))⟩,
        ⟨(some 4), none, (.mov (.t 27))⟩]))))))
  (.seq (.seq (.ops [⟨(some 54), none, (.ld 4 true (.t 1))⟩,
    ⟨(some 55), none, (.callF 78 [(.t 54)])⟩,
    ⟨(some 56), none, (.len false (.t 55))⟩,
    ⟨(some 57), none, (.bin .eql (.t 56) (.k (.int .i64 0)))⟩])
  (.cnd (.t 57)
    (.seq (.ops [⟨(some 2), none, (.mov (.k (.int .i64 12)))⟩])
    .ret)
    .skip))
  (.seq (.ops [⟨(some 2), none, (.mov (.k (.int .i64 0)))⟩])
  .ret)))))))⟩
def hint27 (P : Program) : Hint := {}
/-- The orders that begin so, and have days. -/
def SLr (c : Chn) : Nat → List Int → Int → List (List Int)
  | 0, o, _ => if fitB c.ls c.lo o = true then [o] else []
  | k + 1, o, h => (candF o c.ls.length 0).flatMap fun i => if (lkAt c.ls i).f = h then SLr c k (o ++ [i]) (lkAt c.ls i).t else []
theorem SLr_perms (c : Chn) : ∀ (k : Nat) (o : List Int) (h : Int), SLr c k o h = (permsK c.ls.length k o).filter fun m => linkB c.ls h (m.drop o.length) && fitB c.ls c.lo m
  | 0, o, h => by
    rw [SLr, permsK]
    by_cases hf : fitB c.ls c.lo o = true
    · rw [if_pos hf, List.filter_cons_of_pos (by simp [linkB, hf])]; rfl
    · rw [if_neg hf, List.filter_cons_of_neg (by simp [hf])]; rfl
  | k + 1, o, h => by
    rw [SLr, permsK, List.filter_flatMap]
    refine flatMap_congr' fun i _ => ?_
    by_cases hc : (lkAt c.ls i).f = h
    · rw [if_pos hc, SLr_perms c k]
      refine List.filter_congr fun m hm => ?_
      rw [permsK_dropc hm, linkB, decide_eq_true hc, Bool.true_and]
    · rw [if_neg hc]
      symm
      rw [List.filter_eq_nil_iff]
      intro m hm
      rw [permsK_dropc hm, linkB, decide_eq_false hc]; simp
theorem SLr_tales (c : Chn) : SLr c c.ls.length [] c.maker = (talesF c).map (·.1) := by
  rw [SLr_perms, talesF_perms, List.map_map]
  show _ = List.map (fun m => m) _
  rw [List.map_id']
  rfl
def candS (o : List Int) (n i : Nat) : List Int := candF o (n - i) i
theorem candS_step {o : List Int} {n i : Nat} (h : i < n) : candS o n i = if (i : Int) ∈ o then candS o n (i + 1) else (i : Int) :: candS o n (i + 1) := by
  unfold candS
  rw [show n - i = (n - (i + 1)) + 1 by omega, candF]
  by_cases hi : (i : Int) ∈ o
  · rw [if_pos (idx_mem.2 hi), if_pos hi]
  · rw [if_neg (fun h => hi (idx_mem.1 h)), if_neg hi]
abbrev stR (c : Chn) (o : List Int) : List AV := [.slc 1 (iR o) .non, .slc 1 (iR (leO c o)) .non, .slc 1 (iR (latF c o)) .non]
abbrev stL (c : Chn) (l : List (List Int)) : List (List AV) := l.map (stR c)
def outV (c : Chn) (O : List (List Int)) : Option Nat → AV
  | none => .nsl
  | some g => .slc 3 (stL c O) (.own 80 g)
def outX : Option Nat → Nat × Res
  | none => (0, .dead)
  | some g => (g, .row [])
abbrev outR (t : Option Nat) : List (Nat × (Nat × Res)) := [(80, outX t)]
def inpR : Option Nat → List (Nat × (Nat × Res))
  | none => []
  | some g => [(80, (g, .row []))]
def outOK (O : List (List Int)) (t : Option Nat) : Prop := t = none → O = []
theorem SLr_len (c : Chn) (hn : c.ls.length ≤ 7) : ∀ (k : Nat) (o : List Int) (h : Int), k ≤ 7 → (SLr c k o h).length ≤ 10 ^ k
  | 0, o, h, _ => by rw [SLr]; split <;> simp
  | k + 1, o, h, hk => by
    rw [SLr]
    have hc : ∀ (m s : Nat), ((candF o m s).flatMap fun i => if (lkAt c.ls i).f = h then SLr c k (o ++ [i]) (lkAt c.ls i).t else []).length ≤ m * 10 ^ k := by
      intro m
      induction m with
      | zero => intro s; simp [candF]
      | succ m ih =>
        intro s
        rw [candF]
        have h1 := ih (s + 1)
        have hp : 0 < 10 ^ k := Nat.pow_pos (by decide)
        split
        · rw [Nat.succ_mul]; exact Nat.le_trans h1 (Nat.le_add_right _ _)
        · rw [List.flatMap_cons, List.length_append, Nat.succ_mul]
          have h2 : (if (lkAt c.ls (s : Int)).f = h then SLr c k (o ++ [(s : Int)]) (lkAt c.ls (s : Int)).t else []).length ≤ 10 ^ k := by
            split
            · exact SLr_len c hn k _ _ (by omega)
            · simp
          omega
    exact Nat.le_trans (hc c.ls.length 0) (by rw [Nat.pow_succ, Nat.mul_comm]; exact Nat.mul_le_mul_left _ (by omega))
theorem stories_leaf (c : Chn) (ok : Okc c) (o : List Int) (h : Int) (O : List (List Int)) (t : Option Nat) (hk : o.length + 0 = c.ls.length) (hi : ∀ i ∈ o, 0 ≤ i ∧ i < (c.ls.length : Int)) (ht : outOK O t) (hO : O.length + 10 ^ 0 ≤ 10 ^ 9) :
    RawC Try.prog 120 [cA c, .slc 1 (iR o) .non, .int .i64 h, outV c O t] (sg (inpR t)) (SR (fun (t' : Option Nat) v => v = outV c (O ++ SLr c 0 o h) t' ∧ outOK (O ++ SLr c 0 o h) t') outR) := by
  have hn := ok.n
  have hD := dated_s c o ok (by omega) hi
  have hol : (o.length : Int) = c.ls.length := by omega
  rw [Nat.pow_zero] at hO
  rw [SLr]
  by_cases hf : fitB c.ls c.lo o = true
  · simp only [if_pos hf] at hD ⊢
    rcases t with _ | g
    · obtain rfl := ht rfl
      dsimp only [outV, inpR]
      refine RawC.walk (H := hint120 Try.prog) ir120 Try.func120 rfl rfl rfl ?_
      unfold ir120
      repeat' (first
        | with_reducible (first | refine Rd.p ?_ | refine w_alt ?_ ?_ | refine zO ?_ | refine zE0 ?_)
        | with_reducible (first | refine zI fun y hy => ?_ | refine zL ?_ | refine zS ?_ | refine zA fun _ => ?_ | refine zV ?_ | refine zC ?_ | refine zG ?_ | refine zU ?_ | refine zG0 ?_ | refine zU0 ?_ | refine zF ?_)
        | ((with_reducible refine acall_id ?_); refine ACall.val hD rfl rfl ?_)
        | with_reducible (first | refine zX ?_ | refine zD fun _ => ?_ | refine zD0 ?_ | refine zN ?_ | refine zF0 ?_ | refine zX0 ?_ | refine z1 ?_ | refine z2 ?_ | refine z3 ?_ | refine z4 ?_ | refine z5 ?_ | refine z6 ?_ | refine z7 ?_ | refine z8 ?_ | refine y1 ?_ | refine y2 ?_ | refine y3 ?_ | refine y4 ?_ | refine y5 ?_ | refine y6 ?_ | refine y7 ?_ | refine y8 ?_ | refine Rt.p (fun _ => ?_) fun _ => ?_)
        | ((with_reducible apply w_ixM); (focus exact rfl); (focus exact rfl); case' hk => intro y hy) | ((with_reducible (first | apply w_val | apply q_ends)); (focus exact rfl)))
      exact ⟨some _, ⟨rfl, fun h => by cases h⟩, rfl, trivial⟩
    · dsimp only [outV, inpR]
      refine RawC.walk (H := hint120 Try.prog) ir120 Try.func120 rfl rfl rfl ?_
      unfold ir120
      repeat' (first
        | with_reducible (first | refine Rd.p ?_ | refine w_alt ?_ ?_ | refine zO ?_ | refine zE0 ?_)
        | with_reducible (first | refine zI fun y hy => ?_ | refine zL ?_ | refine zS ?_ | refine zA fun _ => ?_ | refine zV ?_ | refine zC ?_ | refine zG ?_ | refine zU ?_ | refine zG0 ?_ | refine zU0 ?_ | refine zF ?_)
        | ((with_reducible refine acall_id ?_); refine ACall.val hD rfl rfl ?_)
        | with_reducible (first | refine zX ?_ | refine zD fun _ => ?_ | refine zD0 ?_ | refine zN ?_ | refine zF0 ?_ | refine zX0 ?_ | refine z1 ?_ | refine z2 ?_ | refine z3 ?_ | refine z4 ?_ | refine z5 ?_ | refine z6 ?_ | refine z7 ?_ | refine z8 ?_ | refine y1 ?_ | refine y2 ?_ | refine y3 ?_ | refine y4 ?_ | refine y5 ?_ | refine y6 ?_ | refine y7 ?_ | refine y8 ?_ | refine Rt.p (fun _ => ?_) fun _ => ?_)
        | ((with_reducible apply w_ixM); (focus exact rfl); (focus exact rfl); case' hk => intro y hy) | ((with_reducible (first | apply w_val | apply q_ends)); (focus exact rfl)))
      exact ⟨some _, ⟨by show _ = AV.slc 3 (stL c (O ++ [o])) _; rfl, fun h => by cases h⟩, rfl, trivial⟩
  · simp only [if_neg hf] at hD ⊢
    rw [List.append_nil]
    rcases t with _ | g
    · obtain rfl := ht rfl
      dsimp only [outV, inpR]
      refine RawC.walk (H := hint120 Try.prog) ir120 Try.func120 rfl rfl rfl ?_
      unfold ir120
      repeat' (first
        | with_reducible (first | refine Rd.p ?_ | refine w_alt ?_ ?_ | refine zO ?_ | refine zE0 ?_)
        | with_reducible (first | refine zI fun y hy => ?_ | refine zL ?_ | refine zS ?_ | refine zA fun _ => ?_ | refine zV ?_ | refine zC ?_ | refine zG ?_ | refine zU ?_ | refine zG0 ?_ | refine zU0 ?_ | refine zF ?_)
        | ((with_reducible refine acall_id ?_); refine ACall.val hD rfl rfl ?_)
        | with_reducible (first | refine zX ?_ | refine zD fun _ => ?_ | refine zD0 ?_ | refine zN ?_ | refine zF0 ?_ | refine zX0 ?_ | refine z1 ?_ | refine z2 ?_ | refine z3 ?_ | refine z4 ?_ | refine z5 ?_ | refine z6 ?_ | refine z7 ?_ | refine z8 ?_ | refine y1 ?_ | refine y2 ?_ | refine y3 ?_ | refine y4 ?_ | refine y5 ?_ | refine y6 ?_ | refine y7 ?_ | refine y8 ?_ | refine Rt.p (fun _ => ?_) fun _ => ?_)
        | ((with_reducible apply w_ixM); (focus exact rfl); (focus exact rfl); case' hk => intro y hy) | ((with_reducible (first | apply w_val | apply q_ends)); (focus exact rfl)))
      exact ⟨none, ⟨rfl, fun _ => rfl⟩, rfl, trivial⟩
    · dsimp only [outV, inpR]
      refine RawC.walk (H := hint120 Try.prog) ir120 Try.func120 rfl rfl rfl ?_
      unfold ir120
      repeat' (first
        | with_reducible (first | refine Rd.p ?_ | refine w_alt ?_ ?_ | refine zO ?_ | refine zE0 ?_)
        | with_reducible (first | refine zI fun y hy => ?_ | refine zL ?_ | refine zS ?_ | refine zA fun _ => ?_ | refine zV ?_ | refine zC ?_ | refine zG ?_ | refine zU ?_ | refine zG0 ?_ | refine zU0 ?_ | refine zF ?_)
        | ((with_reducible refine acall_id ?_); refine ACall.val hD rfl rfl ?_)
        | with_reducible (first | refine zX ?_ | refine zD fun _ => ?_ | refine zD0 ?_ | refine zN ?_ | refine zF0 ?_ | refine zX0 ?_ | refine z1 ?_ | refine z2 ?_ | refine z3 ?_ | refine z4 ?_ | refine z5 ?_ | refine z6 ?_ | refine z7 ?_ | refine z8 ?_ | refine y1 ?_ | refine y2 ?_ | refine y3 ?_ | refine y4 ?_ | refine y5 ?_ | refine y6 ?_ | refine y7 ?_ | refine y8 ?_ | refine Rt.p (fun _ => ?_) fun _ => ?_)
        | ((with_reducible apply w_ixM); (focus exact rfl); (focus exact rfl); case' hk => intro y hy) | ((with_reducible (first | apply w_val | apply q_ends)); (focus exact rfl)))
      exact ⟨some _, ⟨rfl, fun h => by cases h⟩, rfl, trivial⟩
theorem stories_step (c : Chn) (ok : Okc c) (k : Nat) (IH : ∀ (o : List Int) (h : Int) (O : List (List Int)) (t : Option Nat), o.length + k = c.ls.length → (∀ i ∈ o, 0 ≤ i ∧ i < (c.ls.length : Int)) → outOK O t → O.length + 10 ^ k ≤ 10 ^ 9 →
    RawC Try.prog 120 [cA c, .slc 1 (iR o) .non, .int .i64 h, outV c O t] (sg (inpR t)) (SR (fun (t' : Option Nat) v => v = outV c (O ++ SLr c k o h) t' ∧ outOK (O ++ SLr c k o h) t') outR)) (o : List Int) (h : Int) (O : List (List Int)) (t : Option Nat) (hk : o.length + (k + 1) = c.ls.length) (hi : ∀ i ∈ o, 0 ≤ i ∧ i < (c.ls.length : Int)) (ht : outOK O t) (hO : O.length + 10 ^ (k + 1) ≤ 10 ^ 9) :
    RawC Try.prog 120 [cA c, .slc 1 (iR o) .non, .int .i64 h, outV c O t] (sg (inpR t)) (SR (fun (t' : Option Nat) v => v = outV c (O ++ SLr c (k + 1) o h) t' ∧ outOK (O ++ SLr c (k + 1) o h) t') outR) := by
  have hn := ok.n
  have hol : ¬ (o.length : Int) = c.ls.length := by omega
  have hp1 : 10 ^ (k + 1) = 10 * 10 ^ k := by rw [Nat.pow_succ, Nat.mul_comm]
  have hp0 : 1 ≤ 10 ^ k := Nat.pow_pos (by decide)
  obtain ⟨F, hF⟩ : ∃ F : Int → List (List Int), F = fun i => if (lkAt c.ls i).f = h then SLr c k (o ++ [i]) (lkAt c.ls i).t else [] := ⟨_, rfl⟩
  have hFl : ∀ i, (F i).length ≤ 10 ^ k := fun i => by
    rw [hF]; dsimp only
    split
    · exact SLr_len c hn k _ _ (by omega)
    · simp
  obtain ⟨R, hR⟩ : ∃ R, R = O ++ SLr c (k + 1) o h := ⟨_, rfl⟩
  have hR0 : R = O ++ (candS o c.ls.length 0).flatMap F := by rw [hR, SLr, hF]; rfl
  rw [← hR]
  refine RawC.walk (H := hint120 Try.prog) ir120 Try.func120 rfl rfl rfl ?_
  unfold ir120
  repeat' (first
    | with_reducible (first | refine Rd.p ?_ | refine w_alt ?_ ?_ | refine zE ?_ | refine zE0 ?_)
    | with_reducible (first | refine zI fun y hy => ?_ | refine zL ?_ | refine zS ?_ | refine zA fun _ => ?_ | refine zV ?_ | refine zC ?_ | refine zG ?_ | refine zU ?_ | refine zG0 ?_ | refine zU0 ?_ | refine zF ?_)
    | with_reducible (first | refine zX ?_ | refine zD fun _ => ?_ | refine zD0 ?_ | refine zN ?_ | refine zF0 ?_ | refine zX0 ?_ | refine z1 ?_ | refine z2 ?_ | refine z3 ?_ | refine z4 ?_ | refine z5 ?_ | refine z6 ?_ | refine z7 ?_ | refine z8 ?_ | refine y1 ?_ | refine y2 ?_ | refine y3 ?_ | refine y4 ?_ | refine y5 ?_ | refine y6 ?_ | refine y7 ?_ | refine y8 ?_ | refine Rt.p (fun _ => ?_) fun _ => ?_)
    | ((with_reducible apply w_ixM); (focus exact rfl); (focus exact rfl); case' hk => intro y hy) | ((with_reducible (first | apply w_val | apply q_ends)); (focus exact rfl)))
  refine w_loopK [1, 2, 4] [4] (fun x : Nat × List (List Int) × Option Nat => x.1 ≤ c.ls.length ∧ R = x.2.1 ++ (candS o c.ls.length x.1).flatMap F ∧ outOK x.2.1 x.2.2 ∧ x.2.1.length ≤ O.length + x.1 * 10 ^ k) (fun x => c.ls.length - x.1) (fun x => [(11, .int .i64 x.1), (3, outV c x.2.1 x.2.2)]) (fun x => outR x.2.2) (0, O, t) ⟨Nat.zero_le _, hR0, ht, by dsimp only; omega⟩ ⟨rfl, rfl, trivial⟩ (by refine slots_cons ?_ slots_nil; cases t <;> rfl) ?_
  rintro ⟨i, O1, t1⟩ ⟨hi1, hR1, ht1, hO1⟩ e σ
  dsimp only at hi1 hR1 ht1 hO1 ⊢
  by_cases hin : i < c.ls.length
  case neg =>
    obtain rfl : i = c.ls.length := by omega
    have hRe : R = O1 := by rw [hR1]; unfold candS; rw [Nat.sub_self]; simp [candF]
    rcases t1 with _ | g1
    · dsimp only [outV, outR, outX]
      repeat' (first
        | with_reducible (first | refine Rd.p ?_ | refine w_alt ?_ ?_ | refine zO ?_ | refine zE0 ?_)
        | with_reducible (first | refine zI fun y hy => ?_ | refine zL ?_ | refine zS ?_ | refine zA fun _ => ?_ | refine zV ?_ | refine zC ?_ | refine zG ?_ | refine zU ?_ | refine zG0 ?_ | refine zU0 ?_ | refine zF ?_)
        | with_reducible (first | refine zX ?_ | refine zD fun _ => ?_ | refine zD0 ?_ | refine zN ?_ | refine zF0 ?_ | refine zX0 ?_ | refine z1 ?_ | refine z2 ?_ | refine z3 ?_ | refine z4 ?_ | refine z5 ?_ | refine z6 ?_ | refine z7 ?_ | refine z8 ?_ | refine y1 ?_ | refine y2 ?_ | refine y3 ?_ | refine y4 ?_ | refine y5 ?_ | refine y6 ?_ | refine y7 ?_ | refine y8 ?_ | refine Rt.p (fun _ => ?_) fun _ => ?_)
        | ((with_reducible apply w_ixM); (focus exact rfl); (focus exact rfl); case' hk => intro y hy) | ((with_reducible (first | apply w_val | apply q_ends)); (focus exact rfl)))
      all_goals first
        | (exfalso; omega)
        | exact ⟨none, ⟨by rw [hRe]; rfl, by rw [hRe]; exact ht1⟩, rfl, trivial⟩
    · dsimp only [outV, outR, outX]
      repeat' (first
        | with_reducible (first | refine Rd.p ?_ | refine w_alt ?_ ?_ | refine zO ?_ | refine zE0 ?_)
        | with_reducible (first | refine zI fun y hy => ?_ | refine zL ?_ | refine zS ?_ | refine zA fun _ => ?_ | refine zV ?_ | refine zC ?_ | refine zG ?_ | refine zU ?_ | refine zG0 ?_ | refine zU0 ?_ | refine zF ?_)
        | with_reducible (first | refine zX ?_ | refine zD fun _ => ?_ | refine zD0 ?_ | refine zN ?_ | refine zF0 ?_ | refine zX0 ?_ | refine z1 ?_ | refine z2 ?_ | refine z3 ?_ | refine z4 ?_ | refine z5 ?_ | refine z6 ?_ | refine z7 ?_ | refine z8 ?_ | refine y1 ?_ | refine y2 ?_ | refine y3 ?_ | refine y4 ?_ | refine y5 ?_ | refine y6 ?_ | refine y7 ?_ | refine y8 ?_ | refine Rt.p (fun _ => ?_) fun _ => ?_)
        | ((with_reducible apply w_ixM); (focus exact rfl); (focus exact rfl); case' hk => intro y hy) | ((with_reducible (first | apply w_val | apply q_ends)); (focus exact rfl)))
      all_goals first
        | (exfalso; omega)
        | exact ⟨some g1, ⟨by rw [hRe]; rfl, by rw [hRe]; exact ht1⟩, rfl, trivial⟩
  have hcs := candS_step (o := o) hin
  have hOb : O1.length + 10 ^ k ≤ 10 ^ 9 := by
    have : i * 10 ^ k ≤ 6 * 10 ^ k := Nat.mul_le_mul_right _ (by omega)
    omega
  have hgk : c.ls[i]? = some (lkAt c.ls (i : Int)) := by unfold lkAt; rw [Int.toNat_natCast, List.getElem?_eq_getElem hin]; rfl
  have hsm : (i + 1) * 10 ^ k = i * 10 ^ k + 10 ^ k := Nat.succ_mul _ _
  have hFi := hFl (i : Int)
  repeat' (first
    | with_reducible (first | refine Rd.p ?_ | refine w_alt ?_ ?_ | refine zE ?_ | refine zE0 ?_)
    | with_reducible (first | refine zI fun y hy => ?_ | refine zL ?_ | refine zS ?_ | refine zA fun _ => ?_ | refine zV ?_ | refine zC ?_ | refine zG ?_ | refine zU ?_ | refine zG0 ?_ | refine zU0 ?_ | refine zF ?_)
    | with_reducible (first | refine zX ?_ | refine zD fun _ => ?_ | refine zD0 ?_ | refine zN ?_ | refine zF0 ?_ | refine zX0 ?_ | refine z1 ?_ | refine z2 ?_ | refine z3 ?_ | refine z4 ?_ | refine z5 ?_ | refine z6 ?_ | refine z7 ?_ | refine z8 ?_ | refine y1 ?_ | refine y2 ?_ | refine y3 ?_ | refine y4 ?_ | refine y5 ?_ | refine y6 ?_ | refine y7 ?_ | refine y8 ?_ | refine Rt.p (fun _ => ?_) fun _ => ?_)
    | ((with_reducible apply w_ixM); (focus exact rfl); (focus exact rfl); case' hk => intro y hy) | ((with_reducible (first | apply w_val | apply q_ends)); (focus exact rfl)))
  refine w_loopK [1, 2, 3, 4, 11] [4, 80] (fun x : List Int × List Int => o = x.1 ++ x.2) (fun x => x.2.length) (fun x => [(13, .int .i64 x.1.length), (12, .bool (decide ((i : Int) ∈ x.1)))]) (fun _ => []) ([], o) rfl ⟨rfl, rfl, trivial⟩ trivial ?_
  rintro ⟨p, q⟩ hpq e σ
  dsimp only at hpq ⊢
  have hlen := congrArg List.length hpq
  rw [List.length_append] at hlen
  rcases q with _ | ⟨y, q⟩
  case cons =>
    simp only [List.length_cons] at hlen
    have hmem : decide ((i : Int) ∈ p ++ [y]) = (decide ((i : Int) ∈ p) || decide (y = (i : Int))) := by
      rw [← Bool.decide_or]
      exact decide_eq_decide.2 (by simp [eq_comm])
    cases hip : decide ((i : Int) ∈ p)
    all_goals
      rw [hip] at hmem
      repeat' (first
        | with_reducible (first | refine Rd.p ?_ | refine w_alt ?_ ?_ | refine zE ?_ | refine zE0 ?_)
        | (refine w_ixP hpq rfl rfl ?_)
        | with_reducible (first | refine zI fun y hy => ?_ | refine zL ?_ | refine zS ?_ | refine zA fun _ => ?_ | refine zV ?_ | refine zC ?_ | refine zG ?_ | refine zU ?_ | refine zG0 ?_ | refine zU0 ?_ | refine zF ?_)
        | with_reducible (first | refine zX ?_ | refine zD fun _ => ?_ | refine zD0 ?_ | refine zN ?_ | refine zF0 ?_ | refine zX0 ?_ | refine z1 ?_ | refine z2 ?_ | refine z3 ?_ | refine z4 ?_ | refine z5 ?_ | refine z6 ?_ | refine z7 ?_ | refine z8 ?_ | refine y1 ?_ | refine y2 ?_ | refine y3 ?_ | refine y4 ?_ | refine y5 ?_ | refine y6 ?_ | refine y7 ?_ | refine y8 ?_ | refine Rt.p (fun _ => ?_) fun _ => ?_)
        | ((with_reducible apply w_ixM); (focus exact rfl); (focus exact rfl); case' hk => intro y hy) | ((with_reducible (first | apply w_val | apply q_ends)); (focus exact rfl)))
      refine q_loop (p ++ [y], q) (by show o = _; rw [hpq]; simp) (by simp) (slots_cons (by show AV.int .i64 _ = AV.int .i64 _; refine int_eq ?_; simp) (slots_cons (by show _ = AV.bool (decide ((i : Int) ∈ p ++ [y])); rw [hmem]; rfl) slots_nil)) trivial (by repeat' (first | exact kept_nil | apply kept_cons | rfl)) (by repeat' (first | exact kept_nil | apply kept_cons | rfl))
  case nil =>
    simp only [List.length_nil] at hlen
    rw [List.append_nil] at hpq
    subst hpq
    by_cases hio : (i : Int) ∈ o
    · rw [decide_eq_true hio]
      rw [if_pos hio] at hcs
      repeat' (first
        | with_reducible (first | refine Rd.p ?_ | refine w_alt ?_ ?_ | refine zE ?_ | refine zE0 ?_)
        | (refine w_ixE (f := fun g : Lnk => [.int .i64 g.f, .int .i64 g.t, .int .i64 g.lo, .int .i64 g.hi]) hgk rfl rfl ?_)
        | with_reducible (first | refine zI fun y hy => ?_ | refine zL ?_ | refine zS ?_ | refine zA fun _ => ?_ | refine zV ?_ | refine zC ?_ | refine zG ?_ | refine zU ?_ | refine zG0 ?_ | refine zU0 ?_ | refine zF ?_)
        | with_reducible (first | refine zX ?_ | refine zD fun _ => ?_ | refine zD0 ?_ | refine zN ?_ | refine zF0 ?_ | refine zX0 ?_ | refine z1 ?_ | refine z2 ?_ | refine z3 ?_ | refine z4 ?_ | refine z5 ?_ | refine z6 ?_ | refine z7 ?_ | refine z8 ?_ | refine y1 ?_ | refine y2 ?_ | refine y3 ?_ | refine y4 ?_ | refine y5 ?_ | refine y6 ?_ | refine y7 ?_ | refine y8 ?_ | refine Rt.p (fun _ => ?_) fun _ => ?_)
        | ((with_reducible apply w_ixM); (focus exact rfl); (focus exact rfl); case' hk => intro y hy) | ((with_reducible (first | apply w_val | apply q_ends)); (focus exact rfl)))
      all_goals try (exfalso; omega)
      refine q_loop (i + 1, O1, t1) ⟨by dsimp only; omega, by show R = _; rw [hR1, hcs], ht1, by dsimp only; rw [hsm]; omega⟩ (by dsimp only; omega) (slots_cons (by show AV.int .i64 _ = AV.int .i64 _; refine int_eq ?_; simp) (slots_cons rfl slots_nil)) (by exact ⟨rfl, trivial⟩) (by repeat' (first | exact kept_nil | apply kept_cons | rfl)) (by repeat' (first | exact kept_nil | apply kept_cons | rfl))
    rw [decide_eq_false hio]
    rw [if_neg hio] at hcs
    by_cases hfh : (lkAt c.ls (i : Int)).f = h
    case neg =>
      have hFe : F (i : Int) = [] := by rw [hF]; exact if_neg hfh
      generalize lkAt c.ls (i : Int) = lk at *
      repeat' (first
        | with_reducible (first | refine Rd.p ?_ | refine w_alt ?_ ?_ | refine zE ?_ | refine zE0 ?_)
        | (refine w_ixE (f := fun g : Lnk => [.int .i64 g.f, .int .i64 g.t, .int .i64 g.lo, .int .i64 g.hi]) hgk rfl rfl ?_)
        | with_reducible (first | refine zI fun y hy => ?_ | refine zL ?_ | refine zS ?_ | refine zA fun _ => ?_ | refine zV ?_ | refine zC ?_ | refine zG ?_ | refine zU ?_ | refine zG0 ?_ | refine zU0 ?_ | refine zF ?_)
        | with_reducible (first | refine zX ?_ | refine zD fun _ => ?_ | refine zD0 ?_ | refine zN ?_ | refine zF0 ?_ | refine zX0 ?_ | refine z1 ?_ | refine z2 ?_ | refine z3 ?_ | refine z4 ?_ | refine z5 ?_ | refine z6 ?_ | refine z7 ?_ | refine z8 ?_ | refine y1 ?_ | refine y2 ?_ | refine y3 ?_ | refine y4 ?_ | refine y5 ?_ | refine y6 ?_ | refine y7 ?_ | refine y8 ?_ | refine Rt.p (fun _ => ?_) fun _ => ?_)
        | ((with_reducible apply w_ixM); (focus exact rfl); (focus exact rfl); case' hk => intro y hy) | ((with_reducible (first | apply w_val | apply q_ends)); (focus exact rfl)))
      all_goals try (exfalso; omega)
      refine q_loop (i + 1, O1, t1) ⟨by dsimp only; omega, by show R = _; rw [hR1, hcs, List.flatMap_cons, hFe, List.nil_append], ht1, by dsimp only; rw [hsm]; omega⟩ (by dsimp only; omega) (slots_cons (by show AV.int .i64 _ = AV.int .i64 _; refine int_eq ?_; simp) (slots_cons rfl slots_nil)) (by exact ⟨rfl, trivial⟩) (by repeat' (first | exact kept_nil | apply kept_cons | rfl)) (by repeat' (first | exact kept_nil | apply kept_cons | rfl))
    have H := IH (o ++ [(i : Int)]) (lkAt c.ls (i : Int)).t O1 t1 (by simp; omega) (fun y hy => by
      rcases List.mem_append.1 hy with hy | hy
      · exact hi y hy
      · rw [List.mem_singleton] at hy; subst hy; omega) ht1 hOb
    have hFe : F (i : Int) = SLr c k (o ++ [(i : Int)]) (lkAt c.ls (i : Int)).t := by rw [hF]; exact if_pos hfh
    rw [← hFe] at H
    generalize lkAt c.ls (i : Int) = lk at *
    rcases t1 with _ | g1
    case none =>
      dsimp only [inpR, outV, outX] at H ⊢
      repeat' (first
        | with_reducible (first | refine Rd.p ?_ | refine w_alt ?_ ?_ | refine zE ?_ | refine zE0 ?_)
        | (refine w_ixE (f := fun g : Lnk => [.int .i64 g.f, .int .i64 g.t, .int .i64 g.lo, .int .i64 g.hi]) hgk rfl rfl ?_)
        | with_reducible (first | refine zI fun y hy => ?_ | refine zL ?_ | refine zS ?_ | refine zA fun _ => ?_ | refine zV ?_ | refine zC ?_ | refine zG ?_ | refine zU ?_ | refine zG0 ?_ | refine zU0 ?_ | refine zF ?_)
        | ((with_reducible refine acall_id ?_); refine ACall.liftS H [] (some 80) rfl rfl rfl trivial (fun _ => rfl) ?_; rintro (_ | g2) _ ⟨rfl, hok2⟩ <;> dsimp only [outV, outX])
        | with_reducible (first | refine zX ?_ | refine zD fun _ => ?_ | refine zD0 ?_ | refine zN ?_ | refine zF0 ?_ | refine zX0 ?_ | refine z1 ?_ | refine z2 ?_ | refine z3 ?_ | refine z4 ?_ | refine z5 ?_ | refine z6 ?_ | refine z7 ?_ | refine z8 ?_ | refine y1 ?_ | refine y2 ?_ | refine y3 ?_ | refine y4 ?_ | refine y5 ?_ | refine y6 ?_ | refine y7 ?_ | refine y8 ?_ | refine Rt.p (fun _ => ?_) fun _ => ?_)
        | ((with_reducible apply w_ixM); (focus exact rfl); (focus exact rfl); case' hk => intro y hy) | ((with_reducible (first | apply w_val | apply q_ends)); (focus exact rfl)))
      all_goals first
        | (exfalso; omega)
        | (refine q_loop (i + 1, O1 ++ F (i : Int), none) ⟨by dsimp only; omega, by show R = _; rw [hR1, hcs, List.flatMap_cons, List.append_assoc], hok2, by dsimp only; rw [hsm, List.length_append]; omega⟩ (by dsimp only; omega) (slots_cons (by show AV.int .i64 _ = AV.int .i64 _; refine int_eq ?_; simp) (slots_cons rfl slots_nil)) (by exact ⟨rfl, trivial⟩) (by repeat' (first | exact kept_nil | apply kept_cons | rfl)) (by repeat' (first | exact kept_nil | apply kept_cons | rfl)))
        | (refine q_loop (i + 1, O1 ++ F (i : Int), some _) ⟨by dsimp only; omega, by show R = _; rw [hR1, hcs, List.flatMap_cons, List.append_assoc], hok2, by dsimp only; rw [hsm, List.length_append]; omega⟩ (by dsimp only; omega) (slots_cons (by show AV.int .i64 _ = AV.int .i64 _; refine int_eq ?_; simp) (slots_cons rfl slots_nil)) (by exact ⟨rfl, trivial⟩) (by repeat' (first | exact kept_nil | apply kept_cons | rfl)) (by repeat' (first | exact kept_nil | apply kept_cons | rfl)))
    case some =>
      dsimp only [inpR, outV, outX] at H ⊢
      repeat' (first
        | with_reducible (first | refine Rd.p ?_ | refine w_alt ?_ ?_ | refine zE ?_ | refine zE0 ?_)
        | (refine w_ixE (f := fun g : Lnk => [.int .i64 g.f, .int .i64 g.t, .int .i64 g.lo, .int .i64 g.hi]) hgk rfl rfl ?_)
        | with_reducible (first | refine zI fun y hy => ?_ | refine zL ?_ | refine zS ?_ | refine zA fun _ => ?_ | refine zV ?_ | refine zC ?_ | refine zG ?_ | refine zU ?_ | refine zG0 ?_ | refine zU0 ?_ | refine zF ?_)
        | ((with_reducible refine acall_id ?_); refine ACall.liftS H [(80, 80)] none rfl rfl rfl ⟨⟨_, rfl⟩, trivial⟩ (fun _ => rfl) ?_; rintro (_ | g2) _ ⟨rfl, hok2⟩ <;> dsimp only [outV, outX])
        | with_reducible (first | refine zX ?_ | refine zD fun _ => ?_ | refine zD0 ?_ | refine zN ?_ | refine zF0 ?_ | refine zX0 ?_ | refine z1 ?_ | refine z2 ?_ | refine z3 ?_ | refine z4 ?_ | refine z5 ?_ | refine z6 ?_ | refine z7 ?_ | refine z8 ?_ | refine y1 ?_ | refine y2 ?_ | refine y3 ?_ | refine y4 ?_ | refine y5 ?_ | refine y6 ?_ | refine y7 ?_ | refine y8 ?_ | refine Rt.p (fun _ => ?_) fun _ => ?_)
        | ((with_reducible apply w_ixM); (focus exact rfl); (focus exact rfl); case' hk => intro y hy) | ((with_reducible (first | apply w_val | apply q_ends)); (focus exact rfl)))
      all_goals first
        | (exfalso; omega)
        | (refine q_loop (i + 1, O1 ++ F (i : Int), none) ⟨by dsimp only; omega, by show R = _; rw [hR1, hcs, List.flatMap_cons, List.append_assoc], hok2, by dsimp only; rw [hsm, List.length_append]; omega⟩ (by dsimp only; omega) (slots_cons (by show AV.int .i64 _ = AV.int .i64 _; refine int_eq ?_; simp) (slots_cons rfl slots_nil)) (by exact ⟨rfl, trivial⟩) (by repeat' (first | exact kept_nil | apply kept_cons | rfl)) (by repeat' (first | exact kept_nil | apply kept_cons | rfl)))
        | (refine q_loop (i + 1, O1 ++ F (i : Int), some _) ⟨by dsimp only; omega, by show R = _; rw [hR1, hcs, List.flatMap_cons, List.append_assoc], hok2, by dsimp only; rw [hsm, List.length_append]; omega⟩ (by dsimp only; omega) (slots_cons (by show AV.int .i64 _ = AV.int .i64 _; refine int_eq ?_; simp) (slots_cons rfl slots_nil)) (by exact ⟨rfl, trivial⟩) (by repeat' (first | exact kept_nil | apply kept_cons | rfl)) (by repeat' (first | exact kept_nil | apply kept_cons | rfl)))
theorem stories_s (c : Chn) (ok : Okc c) : ∀ (k : Nat) (o : List Int) (h : Int) (O : List (List Int)) (t : Option Nat), o.length + k = c.ls.length → (∀ i ∈ o, 0 ≤ i ∧ i < (c.ls.length : Int)) → outOK O t → O.length + 10 ^ k ≤ 10 ^ 9 →
    RawC Try.prog 120 [cA c, .slc 1 (iR o) .non, .int .i64 h, outV c O t] (sg (inpR t)) (SR (fun (t' : Option Nat) v => v = outV c (O ++ SLr c k o h) t' ∧ outOK (O ++ SLr c k o h) t') outR)
  | 0, o, h, O, t, hk, hi, ht, hO => stories_leaf c ok o h O t hk hi ht hO
  | k + 1, o, h, O, t, hk, hi, ht, hO => stories_step c ok k (stories_s c ok k) o h O t hk hi ht hO
end Go.Abs
