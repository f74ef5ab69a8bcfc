/- A part of the proofs of the laws of this seat: contracts of the functions that they reach, each proved of the program's form in Lean. No condition beyond those that each contract names. -/
import Derived.Test.YtmekfgjlcaonjaaC1
import Derived.Test.YtmekfgjlcaonjaaB
set_option linter.unusedVariables false
set_option linter.unusedSimpArgs false
set_option maxRecDepth 20000
set_option maxHeartbeats 4000000
namespace Go.Abs
open Go.Proofs
section
variable {P : Program}
theorem frzS_at {i g j h : Nat} {cc c c' : List AV} {σ : Sig} (hs : σ j = (h, .row c)) (hj : j ≠ i) (hc : frzL i g cc c = c') : frzS i g cc σ j = (h, .row c') := by
  simp [frzS, hj, hs, frzR, hc]
theorem frzA_msl {i g n : Nat} {xs : List Int} (hn : xs.length = n) : frzA i g (xs.map (AV.int .i64)) (.msl i g n 1) = .slc 1 (iR xs) .non := by
  subst hn; simp [frzA, chunk1]
/-- A slice of numbers becomes persistent; F, S: what is kept in mind. -/
theorem w_frzIS {Q : Post} {e : Nat → AV} {σ : Sig} {t i g n : Nat} {xs : List Int} (F : List (Nat × AV)) (S : List (Nat × (Nat × Res))) (hx : e t = .msl i g n 1) (hσ : σ i = (g, .row (xs.map (AV.int .i64)))) (hn : xs.length = n)
    (hF : slots F (frzE i g (xs.map (AV.int .i64)) e)) (hS : slots S (frzS i g (xs.map (AV.int .i64)) σ)) (hk : ∀ e' σ', Q .nor (updL F e') (updL S σ')) : awp P (.frz (.t t)) Q e σ := by
  show frzW (e t) e σ (Q .nor)
  rw [hx]
  show (match σ i with | (g', .row c) => g = g' ∧ c.all AV.scal = true ∧ Q .nor (frzE i g c e) (frzS i g c σ) | _ => False)
  rw [hσ]
  refine ⟨rfl, by simp [AV.scal], ?_⟩
  have := hk (frzE i g (xs.map (AV.int .i64)) e) (frzS i g (xs.map (AV.int .i64)) σ)
  rw [updL_slots hF, updL_slots hS] at this
  exact this
/-- The greatest days, from the last link to the first. -/
def latB : List Int → Int × List Int
  | [] => (100001, [])
  | h :: r => (min h ((latB r).1 - 1), min h ((latB r).1 - 1) :: (latB r).2)
end
def lkAt (ls : List Lnk) (i : Int) : Lnk := (ls[i.toNat]?).getD ⟨0, 0, 0, 0⟩
/-- The greatest days of Made, and of the links of an order. -/
def latF (c : Chn) (o : List Int) : List Int := min c.hi ((latB (o.map fun i => (lkAt c.ls i).hi)).1 - 1) :: (latB (o.map fun i => (lkAt c.ls i).hi)).2
/-- What may come next: the link, its least day, to whom it goes. -/
def tcand (o : List Int) (last h : Int) : Nat → List Lnk → List (Int × Int × Int)
  | _, [] => []
  | s, l :: r => if l.f ≠ h ∨ l.hi < max l.lo (last + 1) ∨ 0 ≤ idxI o s then tcand o last h (s + 1) r else ((s : Int), max l.lo (last + 1), l.t) :: tcand o last h (s + 1) r
def lastI (l : List Int) : Int := l.getLast?.getD 0
/-- All orders that have days, with their least days, that begin so. -/
def talesK (ls : List Lnk) : Nat → List Int → List Int → Int → List (List Int × List Int)
  | 0, o, le, _ => [(o, le)]
  | k + 1, o, le, h => (tcand o (lastI le) h 0 ls).flatMap fun x => talesK ls k (o ++ [x.1]) (le ++ [x.2.1]) x.2.2
def talesF (c : Chn) : List (List Int × List Int) := talesK c.ls c.ls.length [] [c.lo] c.maker
abbrev encT (c : Chn) (x : List Int × List Int) : List AV := [.agg [.slc 1 (iR x.1) .non, .slc 1 (iR x.2) .non, .slc 1 (iR (latF c x.1)) .non]]
/-- aloeswood/store.tales -/
def ir77 : IFn :=
  ⟨4, [(2, none)], (.seq (.ops [⟨(some 1), none, (.box 4 (.t 0))⟩,
    ⟨(some 2), none, (.mov (.k .nfn))⟩])
  (.seq (.seq (.frz (.t 1))
  (.ops [⟨(some 3), none, (.mkf (.func 116) [] [(.t 1)])⟩,
    ⟨(some 2), none, (.mov (.t 3))⟩]))
  .ret))⟩
def hint77 (P : Program) : Hint := { site := [], nils := [], frz := [(3, 1)], mve := [], wr := [] }
/-- aloeswood/store.tales$1 -/
def ir116 : IFn :=
  ⟨14, [], (.seq (.ops [⟨(some 2), none, (.box 1 (.t 0))⟩])
  (.seq (.ops [⟨(some 3), none, (.new [.nfn])⟩])
  (.seq (.ops [⟨(some 4), none, (.mkf (.func 117) [] [(.t 1), (.t 2), (.t 3)])⟩,
    ⟨none, none, (.st 1 (.t 3) (.t 4))⟩])
  (.ops [⟨(some 5), none, (.ld 1 false (.t 3))⟩,
    ⟨(some 6), none, (.flA 1 (.t 1))⟩,
    ⟨(some 7), none, (.flA 0 (.t 6))⟩,
    ⟨(some 8), none, (.ld 1 false (.t 7))⟩,
    ⟨(some 9), none, (.bsl 1 [[(.int .i64 0)]] [(0, (.t 8))])⟩,
    ⟨(some 10), none, (.bld [.nsl, .nsl, .nsl] [(1, 1, (.t 9))])⟩,
    ⟨(some 11), none, (.flA 0 (.t 1))⟩,
    ⟨(some 12), none, (.ld 1 false (.t 11))⟩,
    ⟨(some 13), none, (.callV (.t 5) [(.t 10), (.t 12)])⟩]))))⟩
def hint116 (P : Program) : Hint := {}
/-- aloeswood/store.tales$1$1 -/
def ir117 : IFn :=
  ⟨82, [(7, none)], (.seq (.ops [⟨(some 5), none, (.box 3 (.t 0))⟩,
    ⟨(some 7), none, (.mov (.k (.bool false)))⟩])
  (.seq (.seq (.ops [⟨(some 12), none, (.flA 0 (.t 5))⟩,
    ⟨(some 13), none, (.ld 1 false (.t 12))⟩,
    ⟨(some 14), none, (.len false (.t 13))⟩,
    ⟨(some 15), none, (.flA 3 (.t 2))⟩,
    ⟨(some 16), none, (.ld 1 false (.t 15))⟩,
    ⟨(some 17), none, (.len false (.t 16))⟩,
    ⟨(some 18), none, (.bin .eql (.t 14) (.t 17))⟩])
  (.cnd (.t 18)
    (.seq (.ops [⟨(some 19), none, (.ld 1 false (.t 3))⟩,
      ⟨(some 20), none, (.ld 4 true (.t 2))⟩,
      ⟨(some 21), none, (.ld 3 true (.t 5))⟩,
      ⟨(some 22), none, (.callF 118 [(.t 20), (.t 21)])⟩,
      ⟨none, none, (.chk 1 false (.t 3) 19)⟩,
      ⟨(some 23), none, (.callV (.t 19) [(.t 22)])⟩,
      ⟨(some 7), none, (.mov (.t 23))⟩])
    .ret)
    .skip))
  (.seq (.seq (.ops [⟨(some 24), none, (.flA 3 (.t 2))⟩,
    ⟨(some 25), none, (.ld 1 false (.t 24))⟩,
    ⟨(some 26), none, (.len false (.t 25))⟩,
    ⟨(some 27), none, (.mov (.k (.int .i64 0)))⟩])
  (.blk 0 (.loop (.seq (.ops [⟨(some 28), none, (.bin .lss (.t 27) (.t 26))⟩])
      (.seq (.cnd (.t 28)
        .skip
        (.exit 0))
      (.seq (.blk 1 (.seq (.ops [⟨(some 29), none, (.mov (.t 27))⟩,
          ⟨(some 30), none, (.ixA 4 (.t 25) (.t 27))⟩,
          ⟨(some 31), none, (.ld 4 true (.t 30))⟩,
          ⟨(some 9), none, (.new [(.int .i64 0), (.int .i64 0), (.int .i64 0), (.int .i64 0)])⟩,
          ⟨(some 8), none, (.mov (.t 29))⟩,
          ⟨none, none, (.st 4 (.t 9) (.t 31))⟩])
        (.seq (.ops [⟨(some 32), none, (.flA 2 (.t 9))⟩,
          ⟨(some 33), none, (.flA 0 (.t 32))⟩,
          ⟨(some 34), none, (.ld 1 false (.t 33))⟩,
          ⟨(some 35), none, (.flA 1 (.t 5))⟩,
          ⟨(some 36), none, (.ld 1 false (.t 35))⟩,
          ⟨(some 37), none, (.flA 1 (.t 5))⟩,
          ⟨(some 38), none, (.ld 1 false (.t 37))⟩,
          ⟨(some 39), none, (.len false (.t 38))⟩,
          ⟨(some 40), none, (.bin .sub (.t 39) (.k (.int .i64 1)))⟩,
          ⟨(some 41), none, (.ixA 1 (.t 36) (.t 40))⟩,
          ⟨(some 42), none, (.ld 1 false (.t 41))⟩,
          ⟨(some 43), none, (.bin .add (.t 42) (.k (.int .i64 1)))⟩,
          ⟨(some 44), none, (.mxi true (.t 34) (.t 43))⟩,
          ⟨(some 10), none, (.mov (.t 44))⟩])
        (.seq (.seq (.ops [⟨(some 45), none, (.flA 0 (.t 9))⟩,
          ⟨(some 46), none, (.ld 1 false (.t 45))⟩,
          ⟨(some 47), none, (.mov (.t 1))⟩,
          ⟨(some 48), none, (.bin .neq (.t 46) (.t 47))⟩,
          ⟨(some 49), none, (.mov (.t 48))⟩,
          ⟨(some 50), (some (49, false)), (.mov (.t 10))⟩,
          ⟨(some 51), (some (49, false)), (.flA 2 (.t 9))⟩,
          ⟨(some 52), (some (49, false)), (.flA 1 (.t 51))⟩,
          ⟨(some 53), (some (49, false)), (.ld 1 false (.t 52))⟩,
          ⟨(some 54), (some (49, false)), (.bin .gtr (.t 50) (.t 53))⟩,
          ⟨(some 55), none, (.pick (.t 49) (.k (.bool true)) (.t 54))⟩,
          ⟨(some 56), none, (.mov (.t 55))⟩,
          ⟨(some 57), (some (56, false)), (.flA 0 (.t 5))⟩,
          ⟨(some 58), (some (56, false)), (.ld 1 false (.t 57))⟩,
          ⟨(some 59), (some (56, false)), (.mov (.t 8))⟩,
          ⟨(some 60), (some (56, false)), (.callF 107 [(.t 58), (.t 59)])⟩,
          ⟨(some 61), none, (.pick (.t 56) (.k (.bool true)) (.t 60))⟩])
        (.cnd (.t 61)
          (.exit 1)
          .skip))
        (.seq (.ops [⟨none, none, (.kil 11)⟩,
          ⟨(some 62), none, (.flA 0 (.t 5))⟩,
          ⟨(some 63), none, (.ld 1 false (.t 62))⟩,
          ⟨(some 65), none, (.mov (.t 8))⟩,
          ⟨(some 66), none, (.bsl 1 [[(.int .i64 0)]] [(0, (.t 65))])⟩,
          ⟨(some 68), none, (.flA 1 (.t 5))⟩,
          ⟨(some 69), none, (.ld 1 false (.t 68))⟩,
          ⟨(some 71), none, (.mov (.t 10))⟩,
          ⟨(some 72), none, (.bsl 1 [[(.int .i64 0)]] [(0, (.t 71))])⟩,
          ⟨(some 64), none, (.callF 119 [(.t 63)])⟩,
          ⟨none, none, (.chk 1 false (.t 68) 69)⟩,
          ⟨(some 67), none, (.app 1 8 (.t 64) (.t 66) 67)⟩,
          ⟨none, none, (.chk 1 false (.t 68) 69)⟩,
          ⟨(some 70), none, (.callF 119 [(.t 69)])⟩,
          ⟨(some 73), none, (.app 1 8 (.t 70) (.t 72) 73)⟩,
          ⟨(some 74), none, (.bld [.nsl, .nsl, .nsl] [(0, 1, (.t 67)), (1, 1, (.t 73))])⟩,
          ⟨(some 11), none, (.new [.nsl, .nsl, .nsl])⟩,
          ⟨none, none, (.st 3 (.t 11) (.t 74))⟩])
        (.seq (.ops [⟨(some 75), none, (.ld 1 false (.t 4))⟩,
          ⟨(some 76), none, (.ld 3 true (.t 11))⟩,
          ⟨(some 77), none, (.flA 1 (.t 9))⟩,
          ⟨(some 78), none, (.ld 1 false (.t 77))⟩,
          ⟨(some 79), none, (.callV (.t 75) [(.t 76), (.t 78)])⟩,
          ⟨(some 80), none, (.not (.t 79))⟩])
        (.cnd (.t 80)
          (.seq (.ops [⟨(some 7), none, (.mov (.k (.bool false)))⟩])
          .ret)
          .skip)))))))
      (.ops [⟨(some 81), none, (.bin .add (.t 27) (.k (.int .i64 1)))⟩,
        ⟨(some 27), none, (.mov (.t 81))⟩])))))))
  (.seq (.ops [⟨(some 7), none, (.mov (.k (.bool true)))⟩])
  .ret))))⟩
def hint117 (P : Program) : Hint := {}
/-- aloeswood/store.closed -/
def ir118 : IFn :=
  ⟨50, [(4, some (3, true))], (.seq (.ops [⟨(some 2), none, (.box 4 (.t 0))⟩,
    ⟨(some 3), none, (.box 3 (.t 1))⟩,
    ⟨(some 4), none, (.new [.nsl, .nsl, .nsl])⟩])
  (.seq (.ops [⟨(some 8), none, (.flA 0 (.t 3))⟩,
    ⟨(some 9), none, (.ld 1 false (.t 8))⟩,
    ⟨(some 10), none, (.len false (.t 9))⟩,
    ⟨(some 5), none, (.mov (.t 10))⟩])
  (.seq (.ops [⟨(some 11), none, (.mov (.t 5))⟩,
    ⟨(some 12), none, (.bin .add (.t 11) (.k (.int .i64 1)))⟩,
    ⟨(some 13), none, (.mks 1 8 [(.int .i64 0)] (.t 12) (.t 12))⟩,
    ⟨(some 14), none, (.flA 2 (.t 3))⟩,
    ⟨none, none, (.st 1 (.t 14) (.t 13))⟩])
  (.seq (.ops [⟨(some 6), none, (.mov (.k (.int .i64 100001)))⟩])
  (.seq (.seq (.ops [⟨(some 15), none, (.mov (.t 5))⟩,
    ⟨(some 7), none, (.mov (.t 15))⟩])
  (.blk 0 (.loop (.seq (.seq (.ops [⟨(some 16), none, (.mov (.t 7))⟩,
        ⟨(some 17), none, (.bin .gtr (.t 16) (.k (.int .i64 0)))⟩])
      (.cnd (.t 17)
        .skip
        (.exit 0)))
      (.seq (.blk 1 (.seq (.ops [⟨(some 20), none, (.flA 3 (.t 2))⟩,
          ⟨(some 21), none, (.ld 1 false (.t 20))⟩,
          ⟨(some 22), none, (.flA 0 (.t 3))⟩,
          ⟨(some 23), none, (.ld 1 false (.t 22))⟩,
          ⟨(some 24), none, (.mov (.t 7))⟩,
          ⟨(some 25), none, (.bin .sub (.t 24) (.k (.int .i64 1)))⟩,
          ⟨(some 26), none, (.ixA 1 (.t 23) (.t 25))⟩,
          ⟨(some 27), none, (.ld 1 false (.t 26))⟩,
          ⟨(some 28), none, (.ixA 4 (.t 21) (.t 27))⟩,
          ⟨(some 29), none, (.flA 2 (.t 28))⟩,
          ⟨(some 30), none, (.flA 1 (.t 29))⟩,
          ⟨(some 31), none, (.ld 1 false (.t 30))⟩,
          ⟨(some 32), none, (.mov (.t 6))⟩,
          ⟨(some 33), none, (.bin .sub (.t 32) (.k (.int .i64 1)))⟩,
          ⟨(some 34), none, (.mxi false (.t 31) (.t 33))⟩,
          ⟨(some 6), none, (.mov (.t 34))⟩])
        (.ops [⟨(some 35), none, (.flA 2 (.t 3))⟩,
          ⟨(some 36), none, (.ld 1 false (.t 35))⟩,
          ⟨(some 37), none, (.mov (.t 7))⟩,
          ⟨(some 38), none, (.mov (.t 6))⟩,
          ⟨(some 39), none, (.ixA 1 (.t 36) (.t 37))⟩,
          ⟨none, none, (.st 1 (.t 39) (.t 38))⟩])))
      (.ops [⟨(some 18), none, (.mov (.t 7))⟩,
        ⟨(some 19), none, (.bin .sub (.t 18) (.k (.int .i64 1)))⟩,
        ⟨(some 7), none, (.mov (.t 19))⟩]))))))
  (.seq (.ops [⟨(some 40), none, (.flA 2 (.t 3))⟩,
    ⟨(some 41), none, (.ld 1 false (.t 40))⟩,
    ⟨(some 42), none, (.flA 1 (.t 2))⟩,
    ⟨(some 43), none, (.flA 1 (.t 42))⟩,
    ⟨(some 44), none, (.ld 1 false (.t 43))⟩,
    ⟨(some 45), none, (.mov (.t 6))⟩,
    ⟨(some 46), none, (.bin .sub (.t 45) (.k (.int .i64 1)))⟩,
    ⟨(some 47), none, (.mxi false (.t 44) (.t 46))⟩,
    ⟨(some 48), none, (.ixA 1 (.t 41) (.k (.int .i64 0)))⟩,
    ⟨none, none, (.st 1 (.t 48) (.t 47))⟩])
  (.seq (.seq (.frz (.t 13))
  (.ops [⟨(some 49), none, (.ld 3 true (.t 3))⟩,
    ⟨none, none, (.st 3 (.t 4) (.t 49))⟩]))
  .ret)))))))⟩
def hint118 (P : Program) : Hint := { site := [], nils := [], frz := [(49, 13)], mve := [], wr := [] }
theorem latB_len : ∀ l : List Int, (latB l).2.length = l.length
  | [] => rfl
  | _ :: r => by simp [latB, latB_len r]
theorem latB_bd : ∀ l : List Int, (∀ h ∈ l, 0 ≤ h ∧ h ≤ 100000) → 100001 - (l.length : Int) - 100000 ≤ (latB l).1 ∧ (latB l).1 ≤ 100001
  | [], _ => by simp [latB]
  | h :: r, hh => by
    have := latB_bd r fun x hx => hh x (by simp [hx])
    have h0 := hh h (by simp)
    simp only [latB, List.length_cons]
    omega
theorem lkAt_hi {ls : List Lnk} (hh : ∀ l ∈ ls, 0 ≤ l.hi ∧ l.hi ≤ 100000) (i : Int) : 0 ≤ (lkAt ls i).hi ∧ (lkAt ls i).hi ≤ 100000 := by
  unfold lkAt
  cases h : ls[i.toNat]? with
  | none => simp
  | some l => exact hh l (List.mem_of_getElem? h)
theorem closed_s (c : Chn) (o le : List Int) (ho : o.length ≤ 7) (hi : ∀ i ∈ o, 0 ≤ i ∧ i < c.ls.length) (hh : ∀ l ∈ c.ls, 0 ≤ l.hi ∧ l.hi ≤ 100000) :
    Fn0 Try.prog 118 [cA c, .agg [.slc 1 (iR o) .non, .slc 1 (iR le) .non, .nsl]] (fun v => [v] = encT c (o, le)) := by
  have hb : ∀ p : List Int, (∀ i ∈ p, True) → (∀ h ∈ p.map fun i => (lkAt c.ls i).hi, 0 ≤ h ∧ h ≤ 100000) := fun p _ h hx => by
    obtain ⟨i, _, rfl⟩ := List.mem_map.1 hx; exact lkAt_hi hh i
  refine RawC.walk (H := hint118 Try.prog) ir118 Try.func118 rfl rfl rfl ?_
  unfold ir118
  repeat' (first
    | with_reducible (first | refine Rd.p ?_ | refine w_alt ?_ ?_ | refine zE ?_ | refine zE0 ?_)
    | (refine w_mksI (n := o.length + 1) rfl (by omega) ?_; intro _)
    | with_reducible (first | refine zI fun y hy => ?_ | refine zL ?_ | refine zS ?_ | refine zA fun _ => ?_ | refine zV ?_ | refine zC ?_ | refine zG ?_ | refine zU ?_ | refine zG0 ?_ | refine zU0 ?_ | refine zF ?_)
    | with_reducible (first | refine zX ?_ | refine zD fun _ => ?_ | refine zD0 ?_ | refine zN ?_ | refine zF0 ?_ | refine zX0 ?_ | refine z1 ?_ | refine z2 ?_ | refine z3 ?_ | refine z4 ?_ | refine z5 ?_ | refine z6 ?_ | refine z7 ?_ | refine z8 ?_ | refine y1 ?_ | refine y2 ?_ | refine y3 ?_ | refine y4 ?_ | refine y5 ?_ | refine y6 ?_ | refine y7 ?_ | refine y8 ?_ | refine Rt.p (fun _ => ?_) fun _ => ?_)
    | ((with_reducible apply w_ixM); (focus exact rfl); (focus exact rfl); case' hk => intro y hy) | ((with_reducible (first | apply w_val | apply q_ends)); (focus exact rfl)))
  rename_i g2 g3 g4 g13
  refine w_loopK [2, 3, 4, 13] [2, 3, 4] (fun x : List Int × List Int => o = x.1 ++ x.2) (fun x => x.1.length) (fun x => [(6, .int .i64 (latB (x.2.map fun i => (lkAt c.ls i).hi)).1), (7, .int .i64 x.1.length)])
    (fun x => [(13, (g13, .row ((List.replicate (x.1.length + 1) 0 ++ (latB (x.2.map fun i => (lkAt c.ls i).hi)).2).map (AV.int .i64))))]) (o, []) (by simp) ⟨rfl, rfl, trivial⟩ (by exact ⟨by simp [latB]; rfl, trivial⟩) ?_
  rintro ⟨p, q⟩ hpq e σ
  dsimp only at hpq ⊢
  have hlen := congrArg List.length hpq
  rw [List.length_append] at hlen
  have hL := latB_len (q.map fun i => (lkAt c.ls i).hi)
  have hbq := latB_bd (q.map fun i => (lkAt c.ls i).hi) (hb q fun _ _ => trivial)
  rw [List.length_map] at hL hbq
  rcases List.eq_nil_or_concat p with rfl | ⟨p', i, rfl⟩
  · rw [List.nil_append] at hpq
    subst hpq
    simp only [List.length_nil] at hlen
    have h0 : ([] : List Int).length = 0 := rfl
    repeat' (first
      | with_reducible (first | refine Rd.p ?_ | refine w_alt ?_ ?_ | refine zE ?_ | refine zE0 ?_)
      | (refine w_stI rfl rfl rfl (by simp) ?_)
      | with_reducible (first | refine zI fun y hy => ?_ | refine zL ?_ | refine zS ?_ | refine zA fun _ => ?_ | refine zV ?_ | refine zC ?_ | refine zG ?_ | refine zU ?_ | refine zG0 ?_ | refine zU0 ?_ | refine zF ?_)
      | with_reducible (first | refine zX ?_ | refine zD fun _ => ?_ | refine zD0 ?_ | refine zN ?_ | refine zF0 ?_ | refine zX0 ?_ | refine z1 ?_ | refine z2 ?_ | refine z3 ?_ | refine z4 ?_ | refine z5 ?_ | refine z6 ?_ | refine z7 ?_ | refine z8 ?_ | refine y1 ?_ | refine y2 ?_ | refine y3 ?_ | refine y4 ?_ | refine y5 ?_ | refine y6 ?_ | refine y7 ?_ | refine y8 ?_ | refine Rt.p (fun _ => ?_) fun _ => ?_)
      | ((with_reducible apply w_ixM); (focus exact rfl); (focus exact rfl); case' hk => intro y hy) | ((with_reducible (first | apply w_val | apply q_ends)); (focus exact rfl)))
    have hxl : ((List.replicate (([] : List Int).length + 1) 0 ++ (latB (o.map fun i => (lkAt c.ls i).hi)).2).set ((0 : Int).toNat * 1) (min c.hi ((latB (o.map fun i => (lkAt c.ls i).hi)).1 - 1))).length = o.length + 1 := by simp [hL]
    refine w_frzIS [(3, .ref 3 g3 0), (4, .ref 4 g4 0)] [(3, (g3, .row [.slc 1 (iR o) .non, .slc 1 (iR le) .non, .slc 1 (iR (latF c o)) .non])), (4, (g4, .row [.nsl, .nsl, .nsl]))] rfl rfl hxl ⟨rfl, rfl, trivial⟩ ?_ ?_
    · refine ⟨frzS_at rfl (by decide) ?_, frzS_at rfl (by decide) rfl, trivial⟩
      show frzL 13 g13 _ [.slc 1 (iR o) .non, .slc 1 (iR le) .non, .msl 13 g13 (o.length + 1) 1] = _
      simp only [frzL, frzA_msl hxl]; rfl
    intro _ _
    repeat' (first
      | with_reducible (first | refine Rd.p ?_ | refine w_alt ?_ ?_ | refine zE ?_ | refine zE0 ?_)
      | with_reducible (first | refine zI fun y hy => ?_ | refine zL ?_ | refine zS ?_ | refine zA fun _ => ?_ | refine zV ?_ | refine zC ?_ | refine zG ?_ | refine zU ?_ | refine zG0 ?_ | refine zU0 ?_ | refine zF ?_)
      | with_reducible (first | refine zX ?_ | refine zD fun _ => ?_ | refine zD0 ?_ | refine zN ?_ | refine zF0 ?_ | refine zX0 ?_ | refine z1 ?_ | refine z2 ?_ | refine z3 ?_ | refine z4 ?_ | refine z5 ?_ | refine z6 ?_ | refine z7 ?_ | refine z8 ?_ | refine y1 ?_ | refine y2 ?_ | refine y3 ?_ | refine y4 ?_ | refine y5 ?_ | refine y6 ?_ | refine y7 ?_ | refine y8 ?_ | refine Rt.p (fun _ => ?_) fun _ => ?_)
      | ((with_reducible apply w_ixM); (focus exact rfl); (focus exact rfl); case' hk => intro y hy) | ((with_reducible (first | apply w_val | apply q_ends)); (focus exact rfl)))
    rfl
  · rw [List.concat_eq_append] at *
    have hpl : (p' ++ [i]).length = p'.length + 1 := by simp
    rw [hpl] at hlen
    have hib := hi i (by rw [hpq]; simp)
    repeat' (first
      | with_reducible (first | refine Rd.p ?_ | refine w_alt ?_ ?_ | refine zE ?_ | refine zE0 ?_)
      | (refine w_ixP (pre := p') (post := q) (y := i) (by rw [hpq]; simp) rfl (by show AV.int .i64 _ = _; rw [hpl]; refine int_eq ?_; omega) ?_)
      | (refine w_stI rfl rfl rfl (by simp [hL]; omega) ?_)
      | with_reducible (first | refine zI fun y hy => ?_ | refine zL ?_ | refine zS ?_ | refine zA fun _ => ?_ | refine zV ?_ | refine zC ?_ | refine zG ?_ | refine zU ?_ | refine zG0 ?_ | refine zU0 ?_ | refine zF ?_)
      | with_reducible (first | refine zX ?_ | refine zD fun _ => ?_ | refine zD0 ?_ | refine zN ?_ | refine zF0 ?_ | refine zX0 ?_ | refine z1 ?_ | refine z2 ?_ | refine z3 ?_ | refine z4 ?_ | refine z5 ?_ | refine z6 ?_ | refine z7 ?_ | refine z8 ?_ | refine y1 ?_ | refine y2 ?_ | refine y3 ?_ | refine y4 ?_ | refine y5 ?_ | refine y6 ?_ | refine y7 ?_ | refine y8 ?_ | refine Rt.p (fun _ => ?_) fun _ => ?_)
      | ((with_reducible apply w_ixM); (focus exact rfl); (focus exact rfl); case' hk => intro y hy) | ((with_reducible (first | apply w_val | apply q_ends)); (focus exact rfl)))
    have hlk : (lkAt c.ls i).hi = y.hi := by simp [lkAt, hy]
    refine q_loop (p', i :: q) ?_ ?_ ?_ ?_ (by repeat' (first | exact kept_nil | apply kept_cons | rfl)) (by repeat' (first | exact kept_nil | apply kept_cons | rfl))
    · dsimp only; rw [hpq]; simp
    · simp
    · refine slots_cons ?_ (slots_cons ?_ slots_nil)
      · show _ = AV.int .i64 (latB (((i :: q).map fun i => (lkAt c.ls i).hi))).1
        rw [List.map_cons, latB, hlk]; rfl
      · show AV.int .i64 _ = AV.int .i64 _
        refine int_eq ?_; dsimp only; rw [hpl]; omega
    · refine slots_cons ?_ slots_nil
      show (_, Res.row _) = _
      dsimp only
      rw [List.map_cons, latB, hlk, hpl]
      refine congrArg (fun z => (g13, Res.row (List.map (AV.int .i64) z))) ?_
      have e1 : (((p'.length + 1 : Nat) : Int)).toNat * 1 = p'.length + 1 := by omega
      rw [e1, List.replicate_succ', List.append_assoc, List.set_append_right _ _ (by simp)]
      simp
theorem talesK_mem {ls : List Lnk} : ∀ {k : Nat} {o le : List Int} {h : Int} {x : List Int × List Int}, x ∈ talesK ls k o le h → x.1.length = o.length + k ∧ x.2.length = le.length + k ∧ ((∀ i ∈ o, 0 ≤ i ∧ i < (ls.length : Int)) → ∀ i ∈ x.1, 0 ≤ i ∧ i < (ls.length : Int)) := by
  have hc : ∀ {o : List Int} {last h : Int} {l : List Lnk} {s : Nat} {y : Int × Int × Int}, y ∈ tcand o last h s l → (s : Int) ≤ y.1 ∧ y.1 < s + l.length := by
    intro o last h l
    induction l with
    | nil => intro s y hy; cases hy
    | cons a r ih =>
      intro s y hy
      simp only [tcand] at hy
      split at hy
      · have := ih hy; simp only [List.length_cons]; omega
      · rcases List.mem_cons.1 hy with rfl | hy
        · simp only [List.length_cons]; omega
        · have := ih hy; simp only [List.length_cons]; omega
  intro k
  induction k with
  | zero => intro o le h x hx; simp [talesK] at hx; subst hx; exact ⟨rfl, rfl, id⟩
  | succ k ih =>
    intro o le h x hx
    simp only [talesK, List.mem_flatMap] at hx
    obtain ⟨y, hy, hx⟩ := hx
    obtain ⟨h1, h2, h3⟩ := ih hx
    have := hc hy
    refine ⟨by simp at h1; omega, by simp at h2; omega, fun ho => h3 fun i hi => ?_⟩
    rcases List.mem_append.1 hi with hi | hi
    · exact ho i hi
    · simp at hi; subst hi; omega
def taleS (c : Chn) (gy gw l : Nat) (y : Res) : List (Nat × (Nat × Res)) :=
  [(1000, (gy, .row [.clo (.yield l) [] []])), (1001, (gw, .row [.clo (.func 117) [] [.pin (cC c), .ref 1000 gy 0, .ref 1001 gw 0]])), (YS, (0, y))]
theorem lastI_snoc (l : List Int) (x : Int) : lastI (l ++ [x]) = x := by simp [lastI]
theorem Sub.agg {l m : List AV} (h : SubL l m) : Sub (.agg l) (.agg m) := fun G v ⟨vs, h1, h2⟩ => ⟨vs, h1, SubL.rel h h2⟩
theorem NowV.sub {a : AV} {l : List Int} (h : NowV a l) : Sub a (.slc 1 (iR l) .non) := by
  rcases h with ⟨rfl, rfl⟩ | ⟨rfl, _⟩
  · exact Sub.nil
  · exact Sub.refl _
theorem closedN_s (c : Chn) (a : AV) (o le : List Int) (ha : NowV a o) (ho : o.length ≤ 7) (hi : ∀ i ∈ o, 0 ≤ i ∧ i < c.ls.length) (hh : ∀ l ∈ c.ls, 0 ≤ l.hi ∧ l.hi ≤ 100000) :
    Fn0 Try.prog 118 [cA c, .agg [a, .slc 1 (iR le) .non, .nsl]] (fun v => [v] = encT c (o, le)) :=
  RawC.weak (fun _ _ hr => SubL.rel (.cons (Sub.refl _) (.cons (Sub.agg (.cons ha.sub (.cons (Sub.refl _) (.cons (Sub.refl _) .nil)))) .nil)) hr) (closed_s c o le ho hi hh)
theorem containsN_c (a : AV) (l : List Int) (g : Int) (ha : NowV a l) (hl : l.length < 1000000) : Fn0 Try.prog 107 [a, .int .i64 g] (fun v => v = .bool (decide (0 ≤ idxI l g))) :=
  RawC.weak (fun _ _ hr => SubL.rel (.cons ha.sub (.cons (Sub.refl _) .nil)) hr) (contains_c l g hl)
theorem encT_one {c : Chn} {x : List Int × List Int} {v : AV} (h : [v] = encT c x) : v = .agg [.slc 1 (iR x.1) .non, .slc 1 (iR x.2) .non, .slc 1 (iR (latF c x.1)) .non] := by
  simp only [encT, List.cons.injEq, and_true] at h; exact h
theorem tale_c (c : Chn) (gy gw l : Nat) (hn : c.ls.length ≤ 7) (hh : ∀ l ∈ c.ls, 0 ≤ l.lo ∧ l.lo ≤ 100000 ∧ 0 ≤ l.hi ∧ l.hi ≤ 100000) : ∀ (k : Nat) (o le : List Int) (h : Int) (a : AV) (rest : List (List Int × List Int)), o.length + k = c.ls.length → le.length = o.length + 1 → (0 ≤ lastI le ∧ lastI le ≤ 100000) → (∀ i ∈ o, 0 ≤ i ∧ i < c.ls.length) → NowV a o →
    RawC Try.prog 117 [.agg [a, .slc 1 (iR le) .non, .nsl], .int .i64 h, .pin (cC c), .ref 1000 gy 0, .ref 1001 gw 0] (sg (taleS c gy gw l (.yld l (some ((talesK c.ls k o le h ++ rest).map (encT c))))))
      (SR (fun (b : Bool) v => v = .bool b) (fun b => taleS c gy gw l (.yld l (yNext (rest.map (encT c)) b))))
  | 0, o, le, h, a, rest, hk, hle, hla, ho, ha => by
    have hcl := closedN_s c a o le ha (by omega) ho (fun l hl => ⟨(hh l hl).2.2.1, (hh l hl).2.2.2⟩)
    rcases ha with ⟨rfl, rfl⟩ | ⟨rfl, hne⟩
    all_goals
      refine RawC.walk (H := hint117 Try.prog) ir117 Try.func117 rfl rfl rfl ?_
      unfold ir117
      (try have h0 : ([] : List Int).length = 0 := rfl)
      repeat' (first
        | with_reducible (first | refine Rd.p ?_ | refine w_alt ?_ ?_ | refine zE ?_ | refine zE0 ?_)
        | with_reducible (first | refine zI fun y hy => ?_ | refine zL ?_ | refine zS ?_ | refine zA fun _ => ?_ | refine zV ?_ | refine zC ?_ | refine zG ?_ | refine zU ?_ | refine zG0 ?_ | refine zU0 ?_ | refine zF ?_)
        | ((with_reducible refine acall_id ?_); refine ACall.fn0 hcl rfl ?_; rintro _ hv)
        | (have hv' := encT_one hv; clear hv; subst hv')
        | with_reducible refine zQi fun b => ?_
        | with_reducible (first | refine zX ?_ | refine zD fun _ => ?_ | refine zD0 ?_ | refine zN ?_ | refine zF0 ?_ | refine zX0 ?_ | refine z1 ?_ | refine z2 ?_ | refine z3 ?_ | refine z4 ?_ | refine z5 ?_ | refine z6 ?_ | refine z7 ?_ | refine z8 ?_ | refine y1 ?_ | refine y2 ?_ | refine y3 ?_ | refine y4 ?_ | refine y5 ?_ | refine y6 ?_ | refine y7 ?_ | refine y8 ?_ | refine Rt.p (fun _ => ?_) fun _ => ?_)
        | ((with_reducible apply w_ixM); (focus exact rfl); (focus exact rfl); case' hk => intro y hy) | ((with_reducible (first | apply w_val | apply q_ends)); (focus exact rfl)))
      exact ⟨b, rfl, (by repeat' (first | exact slots_nil | apply slots_cons | rfl | (rw [map_snoc]; rfl) | (rw [len_snoc]; rfl) | (rw [hS]; rfl) | (rw [hS, map_snoc]; rfl) | (refine int_eq ?_; (try dsimp only); omega) | (refine congrArg AV.bool ?_; simp_all; done)))⟩
  | k + 1, o, le, h, a, rest, hk, hle, hla, ho, ha => by
    have hNV := ha
    have hco := fun g => containsN_c a o g ha (by omega)
    have hcl := cloneO_c o a ha (by omega)
    have hle0 : le ≠ [] := fun h => by rw [h] at hle; simp at hle
    have hcl2 := cloneO_c le _ (.inr ⟨rfl, hle0⟩) (by omega)
    obtain ⟨le', z, rfl⟩ : ∃ le' z, le = le' ++ [z] := ⟨_, _, (List.dropLast_concat_getLast hle0).symm⟩
    rw [lastI_snoc] at hla
    have hlz : (le' ++ [z]).length = le'.length + 1 := by simp
    rcases ha with ⟨rfl, ho0⟩ | ⟨rfl, hne⟩
    all_goals
      refine RawC.walk (H := hint117 Try.prog) ir117 Try.func117 rfl rfl rfl ?_
      unfold ir117
      (try have h0 : o.length = 0 := by rw [ho0]; rfl)
      repeat' (first
        | with_reducible (first | refine Rd.p ?_ | refine w_alt ?_ ?_ | refine zE ?_ | refine zE0 ?_)
        | with_reducible (first | refine zI fun y hy => ?_ | refine zL ?_ | refine zS ?_ | refine zA fun _ => ?_ | refine zV ?_ | refine zC ?_ | refine zG ?_ | refine zU ?_ | refine zG0 ?_ | refine zU0 ?_ | refine zF ?_)
        | with_reducible (first | refine zX ?_ | refine zD fun _ => ?_ | refine zD0 ?_ | refine zN ?_ | refine zF0 ?_ | refine zX0 ?_ | refine z1 ?_ | refine z2 ?_ | refine z3 ?_ | refine z4 ?_ | refine z5 ?_ | refine z6 ?_ | refine z7 ?_ | refine z8 ?_ | refine y1 ?_ | refine y2 ?_ | refine y3 ?_ | refine y4 ?_ | refine y5 ?_ | refine y6 ?_ | refine y7 ?_ | refine y8 ?_ | refine Rt.p (fun _ => ?_) fun _ => ?_)
        | ((with_reducible apply w_ixM); (focus exact rfl); (focus exact rfl); case' hk => intro y hy) | ((with_reducible (first | apply w_val | apply q_ends)); (focus exact rfl)))
      refine w_loopK [1, 2, 3, 4, 5, 25, 26] [5, 1000, 1001] (fun x : Nat × List Lnk × List Lnk => c.ls = x.2.1 ++ x.2.2 ∧ x.2.1.length = x.1) (fun x => x.2.2.length) (fun x => [(27, .int .i64 x.1)]) (fun x => [(YS, (0, .yld l (some (((tcand o (lastI (le' ++ [z])) h x.1 x.2.2).flatMap (fun y => talesK c.ls k (o ++ [y.1]) (le' ++ [z] ++ [y.2.1]) y.2.2) ++ rest).map (encT c)))))]) (0, [], c.ls) ⟨rfl, rfl⟩ ⟨rfl, trivial⟩ ⟨rfl, trivial⟩ ?_
      rintro ⟨s, pre, post⟩ ⟨hp, hs⟩ e σ
      dsimp only at hp hs ⊢
      have hlen := congrArg List.length hp
      cases post with
      | nil =>
        simp only [List.append_nil, List.length_append, List.length_nil] at hlen
        repeat' (first
          | with_reducible (first | refine Rd.p ?_ | refine w_alt ?_ ?_ | refine zE ?_ | refine zE0 ?_)
          | with_reducible (first | refine zI fun y hy => ?_ | refine zL ?_ | refine zS ?_ | refine zA fun _ => ?_ | refine zV ?_ | refine zC ?_ | refine zG ?_ | refine zU ?_ | refine zG0 ?_ | refine zU0 ?_ | refine zF ?_)
          | with_reducible (first | refine zX ?_ | refine zD fun _ => ?_ | refine zD0 ?_ | refine zN ?_ | refine zF0 ?_ | refine zX0 ?_ | refine z1 ?_ | refine z2 ?_ | refine z3 ?_ | refine z4 ?_ | refine z5 ?_ | refine z6 ?_ | refine z7 ?_ | refine z8 ?_ | refine y1 ?_ | refine y2 ?_ | refine y3 ?_ | refine y4 ?_ | refine y5 ?_ | refine y6 ?_ | refine y7 ?_ | refine y8 ?_ | refine Rt.p (fun _ => ?_) fun _ => ?_)
          | ((with_reducible apply w_ixM); (focus exact rfl); (focus exact rfl); case' hk => intro y hy) | ((with_reducible (first | apply w_val | apply q_ends)); (focus exact rfl)))
        exact ⟨true, rfl, (by repeat' (first | exact slots_nil | apply slots_cons | rfl | (rw [map_snoc]; rfl) | (rw [len_snoc]; rfl) | (rw [hS]; rfl) | (rw [hS, map_snoc]; rfl) | (refine int_eq ?_; (try dsimp only); omega) | (refine congrArg AV.bool ?_; simp_all; done)))⟩
      | cons d post =>
        simp only [List.length_append, List.length_cons] at hlen
        have hd := hh d (by rw [hp]; simp)
        by_cases hc : d.f ≠ h ∨ d.hi < max d.lo (z + 1) ∨ 0 ≤ idxI o s
        · have hcd : tcand o (lastI (le' ++ [z])) h s (d :: post) = tcand o (lastI (le' ++ [z])) h (s + 1) post := by rw [tcand, lastI_snoc, if_pos hc]
          rw [hcd]
          repeat' (first
            | with_reducible (first | refine Rd.p ?_ | refine w_alt ?_ ?_ | refine zE ?_ | refine zE0 ?_)
            | (first | refine w_ixP (pre := pre) (y := d) (post := post) hp rfl (by show AV.int .i64 _ = AV.int .i64 _; rw [hs]) ?_ | refine w_ixP (l := le' ++ [z]) (pre := le') (y := z) (post := []) rfl rfl (by show AV.int .i64 _ = AV.int .i64 _; refine int_eq ?_; rw [hlz]; omega) ?_)
            | with_reducible (first | refine zI fun y hy => ?_ | refine zL ?_ | refine zS ?_ | refine zA fun _ => ?_ | refine zV ?_ | refine zC ?_ | refine zG ?_ | refine zU ?_ | refine zG0 ?_ | refine zU0 ?_ | refine zF ?_)
            | ((with_reducible refine acall_id ?_); refine ACall.val (hco _) rfl rfl ?_)
            | with_reducible (first | refine zX ?_ | refine zD fun _ => ?_ | refine zD0 ?_ | refine zN ?_ | refine zF0 ?_ | refine zX0 ?_ | refine z1 ?_ | refine z2 ?_ | refine z3 ?_ | refine z4 ?_ | refine z5 ?_ | refine z6 ?_ | refine z7 ?_ | refine z8 ?_ | refine y1 ?_ | refine y2 ?_ | refine y3 ?_ | refine y4 ?_ | refine y5 ?_ | refine y6 ?_ | refine y7 ?_ | refine y8 ?_ | refine Rt.p (fun _ => ?_) fun _ => ?_)
            | ((with_reducible apply w_ixM); (focus exact rfl); (focus exact rfl); case' hk => intro y hy) | ((with_reducible (first | apply w_val | apply q_ends)); (focus exact rfl)))
          all_goals first
            | (exfalso; rcases hc with hc | hc | hc <;> omega)
            | (refine zQ (s + 1, pre ++ [d], post) ?_ ?_
               · exact ⟨by rw [hp]; simp, by simp [hs]⟩
               · simp)
        · have h1 : d.f = h := Decidable.byContradiction fun h => hc (.inl h)
          have h2 : ¬ d.hi < max d.lo (z + 1) := fun h => hc (.inr (.inl h))
          have h3 : ¬ 0 ≤ idxI o s := fun h => hc (.inr (.inr h))
          have hcd : (tcand o (lastI (le' ++ [z])) h s (d :: post)).flatMap (fun y => talesK c.ls k (o ++ [y.1]) (le' ++ [z] ++ [y.2.1]) y.2.2) ++ rest = talesK c.ls k (o ++ [(s : Int)]) (le' ++ [z] ++ [max d.lo (z + 1)]) d.t ++ ((tcand o (lastI (le' ++ [z])) h (s + 1) post).flatMap (fun y => talesK c.ls k (o ++ [y.1]) (le' ++ [z] ++ [y.2.1]) y.2.2) ++ rest) := by
            rw [tcand, lastI_snoc, if_neg hc, List.flatMap_cons, List.append_assoc]
          rw [hcd]
          have hrec := tale_c c gy gw l hn hh k (o ++ [(s : Int)]) (le' ++ [z] ++ [max d.lo (z + 1)]) d.t _ ((tcand o (lastI (le' ++ [z])) h (s + 1) post).flatMap (fun y => talesK c.ls k (o ++ [y.1]) (le' ++ [z] ++ [y.2.1]) y.2.2) ++ rest) (by simp; omega) (by simp at hle ⊢; omega) (by rw [lastI_snoc]; omega) (fun i hi => by
            rcases List.mem_append.1 hi with hi | hi
            · exact ho i hi
            · simp at hi; subst hi; omega) (.inr ⟨rfl, by simp⟩)
          repeat' (first
            | with_reducible (first | refine Rd.p ?_ | refine w_alt ?_ ?_ | refine zE ?_ | refine zE0 ?_)
            | (first | refine w_ixP (pre := pre) (y := d) (post := post) hp rfl (by show AV.int .i64 _ = AV.int .i64 _; rw [hs]) ?_ | refine w_ixP (l := le' ++ [z]) (pre := le') (y := z) (post := []) rfl rfl (by show AV.int .i64 _ = AV.int .i64 _; refine int_eq ?_; rw [hlz]; omega) ?_)
            | with_reducible (first | refine zI fun y hy => ?_ | refine zL ?_ | refine zS ?_ | refine zA fun _ => ?_ | refine zV ?_ | refine zC ?_ | refine zG ?_ | refine zU ?_ | refine zG0 ?_ | refine zU0 ?_ | refine zF ?_)
            | ((with_reducible refine acall_id ?_); refine ACall.val (hco _) rfl rfl ?_)
            | ((with_reducible refine acall_id ?_); refine ACall.liftS hcl [] (some 2) rfl rfl rfl trivial (fun _ => rfl) ?_; rintro _ _ rfl)
            | ((with_reducible refine acall_id ?_); refine ACall.liftS hcl2 [] (some 2) rfl rfl rfl trivial (fun _ => rfl) ?_; rintro _ _ rfl)
            | ((with_reducible refine acall_id ?_); (refine ACall.liftYS hrec [(1000, 1000), (1001, 1001)] none rfl rfl rfl rfl ⟨⟨_, rfl⟩, ⟨_, rfl⟩, trivial⟩ (fun _ => rfl) (fun b => (0, .yld l (yNext ((((tcand o (lastI (le' ++ [z])) h (s + 1) post).flatMap (fun y => talesK c.ls k (o ++ [y.1]) (le' ++ [z] ++ [y.2.1]) y.2.2) ++ rest)).map (encT c)) b))) (fun _ => rfl) ?_; rintro b _ rfl))
            | with_reducible (first | refine zX ?_ | refine zD fun _ => ?_ | refine zD0 ?_ | refine zN ?_ | refine zF0 ?_ | refine zX0 ?_ | refine z1 ?_ | refine z2 ?_ | refine z3 ?_ | refine z4 ?_ | refine z5 ?_ | refine z6 ?_ | refine z7 ?_ | refine z8 ?_ | refine y1 ?_ | refine y2 ?_ | refine y3 ?_ | refine y4 ?_ | refine y5 ?_ | refine y6 ?_ | refine y7 ?_ | refine y8 ?_ | refine Rt.p (fun _ => ?_) fun _ => ?_)
            | ((with_reducible apply w_ixM); (focus exact rfl); (focus exact rfl); case' hk => intro y hy) | ((with_reducible (first | apply w_val | apply q_ends)); (focus exact rfl)))
          · rename_i hb
            subst hb
            exact ⟨false, rfl, (by repeat' (first | exact slots_nil | apply slots_cons | rfl | (rw [map_snoc]; rfl) | (rw [len_snoc]; rfl) | (rw [hS]; rfl) | (rw [hS, map_snoc]; rfl) | (refine int_eq ?_; (try dsimp only); omega) | (refine congrArg AV.bool ?_; simp_all; done)))⟩
          · rename_i hb
            subst hb
            refine zQ (s + 1, pre ++ [d], post) ?_ ?_
            · exact ⟨by rw [hp]; simp, by simp [hs]⟩
            · simp
theorem tales_it (c : Chn) (hn : c.ls.length ≤ 7) (hm : 0 ≤ c.lo ∧ c.lo ≤ 100000) (hh : ∀ l ∈ c.ls, 0 ≤ l.lo ∧ l.lo ≤ 100000 ∧ 0 ≤ l.hi ∧ l.hi ≤ 100000) : ItC Try.prog 116 [.pin (cC c)] ((talesF c).map (encT c)) := by
  refine ItC.of fun l => ?_
  have hrec := fun gy gw => tale_c c gy gw l hn hh c.ls.length [] [c.lo] c.maker .nsl [] (by simp) rfl (by simpa [lastI] using hm) (fun i hi => by cases hi) (.inl ⟨rfl, rfl⟩)
  simp only [List.append_nil] at hrec
  refine RawC.walk (H := hint116 Try.prog) ir116 Try.func116 rfl rfl rfl ?_
  unfold ir116
  repeat' (first
    | with_reducible (first | refine Rd.p ?_ | refine w_alt ?_ ?_ | refine zE ?_ | refine zE0 ?_)
    | with_reducible (first | refine zI fun y hy => ?_ | refine zL ?_ | refine zS ?_ | refine zA fun _ => ?_ | refine zV ?_ | refine zC ?_ | refine zG ?_ | refine zU ?_ | refine zG0 ?_ | refine zU0 ?_ | refine zF ?_)
    | ((with_reducible refine acall_id ?_); (refine ACall.liftYS (hrec _ _) [(1000, 2), (1001, 3)] none rfl rfl rfl rfl ⟨⟨_, rfl⟩, ⟨_, rfl⟩, trivial⟩ (fun _ => rfl) (fun b => (0, .yld l (yNext [] b))) (fun _ => rfl) ?_; rintro b _ rfl))
    | with_reducible (first | refine zX ?_ | refine zD fun _ => ?_ | refine zD0 ?_ | refine zN ?_ | refine zF0 ?_ | refine zX0 ?_ | refine z1 ?_ | refine z2 ?_ | refine z3 ?_ | refine z4 ?_ | refine z5 ?_ | refine z6 ?_ | refine z7 ?_ | refine z8 ?_ | refine y1 ?_ | refine y2 ?_ | refine y3 ?_ | refine y4 ?_ | refine y5 ?_ | refine y6 ?_ | refine y7 ?_ | refine y8 ?_ | refine Rt.p (fun _ => ?_) fun _ => ?_)
    | ((with_reducible apply w_ixM); (focus exact rfl); (focus exact rfl); case' hk => intro y hy) | ((with_reducible (first | apply w_val | apply q_ends)); (focus exact rfl)))
  cases b
  · exact .inl rfl
  · exact .inr rfl
theorem tales_c (c : Chn) : Fn0 Try.prog 77 [cA c] (fun v => v = .clo (.func 116) [] [.pin (cC c)]) := by
  refine RawC.walk (H := hint77 Try.prog) ir77 Try.func77 rfl rfl rfl ?_
  unfold ir77
  repeat' (first
    | with_reducible (first | refine Rd.p ?_ | refine w_alt ?_ ?_ | refine zE ?_ | refine zE0 ?_)
    | with_reducible (first | refine zI fun y hy => ?_ | refine zL ?_ | refine zS ?_ | refine zA fun _ => ?_ | refine zV ?_ | refine zC ?_ | refine zG ?_ | refine zU ?_ | refine zG0 ?_ | refine zU0 ?_ | refine zF ?_)
    | (refine w_frzR rfl rfl rfl ?_)
    | with_reducible (first | refine zX ?_ | refine zD fun _ => ?_ | refine zD0 ?_ | refine zN ?_ | refine zF0 ?_ | refine zX0 ?_ | refine z1 ?_ | refine z2 ?_ | refine z3 ?_ | refine z4 ?_ | refine z5 ?_ | refine z6 ?_ | refine z7 ?_ | refine z8 ?_ | refine y1 ?_ | refine y2 ?_ | refine y3 ?_ | refine y4 ?_ | refine y5 ?_ | refine y6 ?_ | refine y7 ?_ | refine y8 ?_ | refine Rt.p (fun _ => ?_) fun _ => ?_)
    | ((with_reducible apply w_ixM); (focus exact rfl); (focus exact rfl); case' hk => intro y hy) | ((with_reducible (first | apply w_val | apply q_ends)); (focus exact rfl)))
  rfl
end Go.Abs
