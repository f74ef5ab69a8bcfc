/- A part of the proofs of the laws of this seat: contracts of the functions that they reach, each proved of the program's form in Lean. No condition beyond those that each contract names. -/
import Derived.Test.YtmekfgjlcaonjaaC10
import Derived.Test.YtmekfgjlcaonjaaC9
import Derived.Test.YtmekfgjlcaonjaaC8
import Derived.Test.YtmekfgjlcaonjaaC7
import Derived.Test.YtmekfgjlcaonjaaC5
import Derived.Test.YtmekfgjlcaonjaaC4
import Derived.Test.YtmekfgjlcaonjaaC2
import Derived.Test.YtmekfgjlcaonjaaC1
import Derived.Test.YtmekfgjlcaonjaaB
set_option linter.unusedVariables false
set_option linter.unusedSimpArgs false
set_option maxRecDepth 20000
set_option maxHeartbeats 4000000
namespace Go.Abs
open Go.Proofs
section
variable {α : Type}
def foldI (f : α → Nat → α) : Nat → Nat → α → α
  | 0, _, st => st
  | m + 1, n, st => foldI f m (n + 1) (f st n)
/-- The greatest number that a plan has, and one more. -/
def usedF (p : List Int) : Int := p.foldl (fun u n => max u (n + 1)) 0
def metN : List (List Int) → List Int → Int × Int → Int
  | g :: gs, n :: p, k => (if k.2 = n then 1 * cntI k.1 g else 0) + metN gs p k
  | _, _, _ => 0
def gAt (gs : List (List Int)) (n : Nat) : List Int := (gs[n]?).getD []
def againN (gs : List (List Int)) (p : List Int) (n : Int) : Int := (((gAt gs p.length).filter fun g => decide (0 < metN gs p (g, n))).length : Nat)
/-- The search: what is wanted says what becomes of the state, and whether to go on. -/
def growF (s : Sea) (want : α → List Int → Int → α × Bool) : Nat → List Int → Int → α → α
  | 0, p, r, st => (want st p r).1
  | k + 1, p, r, st => if (want st p r).2 = true then foldI (fun st (n : Nat) => growF s want k (p ++ [(n : Int)]) (r + againN s.gs p (n : Int)) st) (min (combF s.ss) (usedF p + 1)).toNat 0 (want st p r).1 else (want st p r).1
end
theorem metN_snoc : ∀ (gs : List (List Int)) (p : List Int) (n : Int) (k : Int × Int), p.length < gs.length → metN gs (p ++ [n]) k = metN gs p k + (if k.2 = n then 1 * cntI k.1 (gAt gs p.length) else 0)
  | [], p, n, k, h => by simp at h
  | g :: gs, [], n, k, _ => by cases gs <;> simp [metN, gAt]
  | g :: gs, m :: p, n, k, h => by
    have ih := metN_snoc gs p n k (by simpa using h)
    simp only [List.cons_append, metN, ih]
    simp only [gAt, List.length_cons, List.getElem?_cons_succ]
    omega
theorem metN_bd : ∀ (gs : List (List Int)) (p : List Int) (k : Int × Int), (∀ g ∈ gs, g.length ≤ 12) → 0 ≤ metN gs p k ∧ metN gs p k ≤ 12 * p.length
  | [], p, k, _ => by cases p <;> simp [metN] <;> omega
  | g :: gs, [], k, _ => by simp [metN]
  | g :: gs, m :: p, k, h => by
    have ih := metN_bd gs p k fun x hx => h x (by simp [hx])
    have h1 : g.count k.1 ≤ g.length := List.count_le_length
    have h2 := h g (by simp)
    simp only [metN, List.length_cons, cntI]
    split <;> omega
theorem usedF_snoc (p : List Int) (n : Int) : usedF (p ++ [n]) = max (usedF p) (n + 1) := by simp [usedF]
theorem usedF_bd {b : Int} : ∀ (p : List Int), (∀ x ∈ p, 0 ≤ x ∧ x < b) → 0 ≤ b → 0 ≤ usedF p ∧ usedF p ≤ b := by
  intro p
  suffices ∀ (q : List Int) (u : Int), 0 ≤ u → u ≤ b → (∀ x ∈ q, 0 ≤ x ∧ x < b) → 0 ≤ q.foldl (fun u n => max u (n + 1)) u ∧ q.foldl (fun u n => max u (n + 1)) u ≤ b from fun h hb => this p 0 (by omega) hb h
  intro q
  induction q with
  | nil => intro u h0 h1 _; exact ⟨h0, h1⟩
  | cons x q ih =>
    intro u h0 h1 h
    have := h x (by simp)
    exact ih (max u (x + 1)) (by omega) (by omega) fun y hy => h y (by simp [hy])
theorem againL_len (kv : List ((Int × Int) × Int)) (gs : List (List Int)) (p : List Int) (n : Int) (h : ∀ k, mget kv k = metN gs p k) : ((againL kv n (gAt gs p.length)).length : Int) = againN gs p n := by
  unfold againL againN
  have : (fun g => decide (0 < mget kv (g, n))) = fun g => decide (0 < metN gs p (g, n)) := by funext g; rw [h]
  rw [this]
theorem gAt_mem {gs : List (List Int)} {n : Nat} (h : n < gs.length) : gAt gs n ∈ gs := by
  unfold gAt; rw [List.getElem?_eq_getElem h]; exact List.getElem_mem _
theorem w_ixLL {P : Program} {K : (Nat → AV) → Sig → Prop} {e : Nat → AV} {σ : Sig} {gs : List (List Int)} {d n : Nat} {t : Tag} {x i : IOpd} {r : List IStep} {k : IntKind} (hx : x.ev e = .slc 1 (llR gs) t) (hi : i.ev e = .int k n) (h : n < gs.length)
    (hk : stepsW P r K (upd e d (.pin [.slc 1 (iR (gAt gs n)) .non])) σ) : stepsW P (⟨some d, none, .ixA 1 x i⟩ :: r) K e σ :=
  w_ixM hx hi (by omega) fun y hy => by
    have : gAt gs n = y := by unfold gAt; rw [Int.toNat_natCast] at hy; rw [hy]; rfl
    rw [this] at hk; exact hk
def optI : List Int → AV
  | [] => .nsl
  | x :: r => .slc 1 (iR (x :: r)) .non
structure OkS (s : Sea) : Prop where
  s4 : s.ss.length ≤ 4
  s6 : ∀ x ∈ s.ss, 1 ≤ x ∧ x ≤ 6
  g9 : s.gs.length ≤ 9
  g12 : ∀ l ∈ s.gs, l.length ≤ 12
/-- aloeswood/store.plans$1 -/
def ir125 : IFn :=
  ⟨76, [], (.seq (.seq (.ops [⟨(some 15), none, (.ld 1 false (.t 2))⟩,
    ⟨(some 16), none, (.mov (.t 0))⟩,
    ⟨(some 17), none, (.mov (.t 1))⟩,
    ⟨(some 18), none, (.callV (.t 15) [(.t 16), (.t 17)])⟩,
    ⟨(some 19), none, (.not (.t 18))⟩,
    ⟨(some 20), none, (.mov (.t 19))⟩,
    ⟨(some 21), (some (20, false)), (.mov (.t 0))⟩,
    ⟨(some 22), (some (20, false)), (.len false (.t 21))⟩,
    ⟨(some 23), (some (20, false)), (.flA 1 (.t 3))⟩,
    ⟨(some 24), (some (20, false)), (.ld 1 false (.t 23))⟩,
    ⟨(some 25), (some (20, false)), (.len false (.t 24))⟩,
    ⟨(some 26), (some (20, false)), (.bin .eql (.t 22) (.t 25))⟩,
    ⟨(some 27), none, (.pick (.t 20) (.k (.bool true)) (.t 26))⟩])
  (.cnd (.t 27)
    .ret
    .skip))
  (.seq (.ops [⟨(some 28), none, (.flA 1 (.t 3))⟩,
    ⟨(some 29), none, (.ld 1 false (.t 28))⟩,
    ⟨(some 30), none, (.mov (.t 0))⟩,
    ⟨(some 31), none, (.len false (.t 30))⟩,
    ⟨(some 32), none, (.ixA 1 (.t 29) (.t 31))⟩,
    ⟨(some 33), none, (.ld 1 false (.t 32))⟩,
    ⟨(some 9), none, (.mov (.t 33))⟩,
    ⟨(some 10), none, (.mov (.k (.int .i64 0)))⟩])
  (.seq (.seq (.ops [⟨(some 34), none, (.mov (.t 0))⟩,
    ⟨(some 35), none, (.len false (.t 34))⟩,
    ⟨(some 36), none, (.mov (.k (.int .i64 0)))⟩])
  (.blk 0 (.loop (.seq (.ops [⟨(some 37), none, (.bin .lss (.t 36) (.t 35))⟩])
      (.seq (.cnd (.t 37)
        .skip
        (.exit 0))
      (.seq (.blk 1 (.seq (.ops [⟨(some 38), none, (.ixA 1 (.t 34) (.t 36))⟩,
          ⟨(some 39), none, (.ld 1 false (.t 38))⟩,
          ⟨(some 12), none, (.mov (.t 39))⟩])
        (.ops [⟨(some 40), none, (.mov (.t 10))⟩,
          ⟨(some 41), none, (.mov (.t 12))⟩,
          ⟨(some 42), none, (.bin .add (.t 41) (.k (.int .i64 1)))⟩,
          ⟨(some 43), none, (.mxi true (.t 40) (.t 42))⟩,
          ⟨(some 10), none, (.mov (.t 43))⟩])))
      (.ops [⟨(some 44), none, (.bin .add (.t 36) (.k (.int .i64 1)))⟩,
        ⟨(some 36), none, (.mov (.t 44))⟩])))))))
  (.seq (.ops [⟨(some 45), none, (.ld 1 false (.t 4))⟩,
    ⟨(some 46), none, (.mov (.t 10))⟩,
    ⟨(some 47), none, (.bin .add (.t 46) (.k (.int .i64 1)))⟩,
    ⟨(some 48), none, (.mxi false (.t 45) (.t 47))⟩,
    ⟨(some 49), none, (.mov (.k (.int .i64 0)))⟩])
  (.blk 2 (.loop (.seq (.ops [⟨(some 50), none, (.bin .lss (.t 49) (.t 48))⟩])
      (.seq (.cnd (.t 50)
        .skip
        (.exit 2))
      (.seq (.blk 3 (.seq (.ops [⟨(some 51), none, (.mov (.t 49))⟩,
          ⟨(some 13), none, (.mov (.t 51))⟩])
        (.seq (.ops [⟨(some 52), none, (.ld 1 false (.t 5))⟩,
          ⟨(some 53), none, (.mov (.t 9))⟩,
          ⟨(some 54), none, (.mov (.t 13))⟩,
          ⟨(some 55), none, (.callF 99 [(.t 52), (.t 53), (.t 54)])⟩,
          ⟨(some 56), none, (.len false (.t 55))⟩,
          ⟨(some 14), none, (.mov (.t 56))⟩])
        (.seq (.ops [⟨(some 57), none, (.ld 1 false (.t 5))⟩,
          ⟨(some 58), none, (.mov (.t 9))⟩,
          ⟨(some 59), none, (.mov (.t 13))⟩,
          ⟨(some 60), none, (.callF 100 [(.t 57), (.t 58), (.t 59), (.k (.int .i64 1))])⟩])
        (.seq (.ops [⟨(some 61), none, (.ld 1 false (.t 6))⟩,
          ⟨(some 62), none, (.mov (.t 0))⟩,
          ⟨(some 64), none, (.mov (.t 13))⟩,
          ⟨(some 65), none, (.bsl 1 [[(.int .i64 0)]] [(0, (.t 64))])⟩,
          ⟨(some 67), none, (.mov (.t 1))⟩,
          ⟨(some 68), none, (.mov (.t 14))⟩,
          ⟨(some 69), none, (.bin .add (.t 67) (.t 68))⟩,
          ⟨(some 63), none, (.callF 119 [(.t 62)])⟩,
          ⟨none, none, (.chk 1 false (.t 6) 61)⟩,
          ⟨(some 66), none, (.app 1 8 (.t 63) (.t 65) 66)⟩,
          ⟨none, none, (.chk 1 false (.t 6) 61)⟩,
          ⟨(some 70), none, (.callV (.t 61) [(.t 66), (.t 69)])⟩])
        (.ops [⟨(some 71), none, (.ld 1 false (.t 5))⟩,
          ⟨(some 72), none, (.mov (.t 9))⟩,
          ⟨(some 73), none, (.mov (.t 13))⟩,
          ⟨(some 74), none, (.callF 100 [(.t 71), (.t 72), (.t 73), (.k (.int .i64 (-1)))])⟩]))))))
      (.ops [⟨(some 75), none, (.bin .add (.t 49) (.k (.int .i64 1)))⟩,
        ⟨(some 49), none, (.mov (.t 75))⟩]))))))))))⟩
def hint125 (P : Program) : Hint := {}
/-- aloeswood/store.Plan$1 -/
def ir93 : IFn :=
  ⟨21, [(6, none)], (.seq (.ops [⟨(some 6), none, (.mov (.k (.bool false)))⟩])
  (.seq (.seq (.ops [⟨(some 7), none, (.mov (.t 1))⟩,
    ⟨(some 8), none, (.bin .gtr (.t 7) (.k (.int .i64 0)))⟩])
  (.cnd (.t 8)
    (.seq (.ops [⟨(some 6), none, (.mov (.k (.bool false)))⟩])
    .ret)
    .skip))
  (.seq (.seq (.ops [⟨(some 9), none, (.mov (.t 0))⟩,
    ⟨(some 10), none, (.len false (.t 9))⟩,
    ⟨(some 11), none, (.ld 1 false (.t 2))⟩,
    ⟨(some 12), none, (.len false (.t 11))⟩,
    ⟨(some 13), none, (.bin .gtr (.t 10) (.t 12))⟩])
  (.cnd (.t 13)
    (.ops [⟨(some 14), none, (.mov (.t 0))⟩,
      ⟨none, none, (.st 1 (.t 2) (.t 14))⟩])
    .skip))
  (.seq (.ops [⟨(some 15), none, (.ld 1 false (.t 2))⟩,
    ⟨(some 16), none, (.len false (.t 15))⟩,
    ⟨(some 17), none, (.flA 1 (.t 3))⟩,
    ⟨(some 18), none, (.ld 1 false (.t 17))⟩,
    ⟨(some 19), none, (.len false (.t 18))⟩,
    ⟨(some 20), none, (.bin .lss (.t 16) (.t 19))⟩,
    ⟨(some 6), none, (.mov (.t 20))⟩])
  .ret))))⟩
def hint93 (P : Program) : Hint := {}
theorem dec_nat (a b : Nat) : decide ((a : Int) < b) = decide (a < b) := by
  by_cases h : a < b
  · rw [decide_eq_true h, decide_eq_true (by omega)]
  · rw [decide_eq_false h, decide_eq_false (by omega)]
/-- What Plan wants. -/
def want1 (s : Sea) (b p : List Int) (r : Int) : List Int × Bool :=
  if 0 < r then (b, false) else (if b.length < p.length then (p, decide (p.length < s.gs.length)) else (b, decide (b.length < s.gs.length)))
theorem want1_s (s : Sea) (gb g2 : Nat) (b p : List Int) (a : AV) (r : Int) (ha : NowV a p) (hp : p.length < 1000) (hb : b.length < 1000) (hg : s.gs.length < 1000) :
    RawC Try.prog 93 [a, .int .i64 r, .ref 1000 gb 0, .ref 1001 g2 0] (sg [(1000, (gb, .row [optI b])), (1001, (g2, .row (seC s)))])
      (SR (fun _ : Unit => fun v => v = .bool (want1 s b p r).2) (fun _ => [(1000, (gb, .row [optI (want1 s b p r).1])), (1001, (g2, .row (seC s)))])) := by
  by_cases hr : 0 < r
  · have hw : want1 s b p r = (b, false) := by rw [want1, if_pos hr]
    rw [hw]
    refine RawC.walk (H := hint93 Try.prog) ir93 Try.func93 rfl rfl rfl ?_
    unfold ir93
    repeat' (first
      | with_reducible (first | refine Rd.p ?_ | refine w_alt ?_ ?_ | refine zE ?_ | refine zE0 ?_)
      | with_reducible (first | refine zI fun y hy => ?_ | refine zL ?_ | refine zS ?_ | refine zA fun _ => ?_ | refine zV ?_ | refine zC ?_ | refine zG ?_ | refine zU ?_ | refine zG0 ?_ | refine zU0 ?_ | refine zF ?_)
      | with_reducible (first | refine zX ?_ | refine zD fun _ => ?_ | refine zD0 ?_ | refine zN ?_ | refine zF0 ?_ | refine zX0 ?_ | refine z1 ?_ | refine z2 ?_ | refine z3 ?_ | refine z4 ?_ | refine z5 ?_ | refine z6 ?_ | refine z7 ?_ | refine z8 ?_ | refine y1 ?_ | refine y2 ?_ | refine y3 ?_ | refine y4 ?_ | refine y5 ?_ | refine y6 ?_ | refine y7 ?_ | refine y8 ?_ | refine Rt.p (fun _ => ?_) fun _ => ?_)
      | ((with_reducible apply w_ixM); (focus exact rfl); (focus exact rfl); case' hk => intro y hy) | ((with_reducible (first | apply w_val | apply q_ends)); (focus exact rfl)))
    exact ⟨(), rfl, rfl, rfl, trivial⟩
  rw [want1, if_neg hr]
  have h0 : ([] : List Int).length = 0 := rfl
  rcases ha with ⟨rfl, rfl⟩ | ⟨rfl, hne⟩
  · rw [if_neg (by simp)]
    cases b with
    | nil =>
      refine RawC.walk (H := hint93 Try.prog) ir93 Try.func93 rfl rfl rfl ?_
      unfold ir93
      repeat' (first
        | with_reducible (first | refine Rd.p ?_ | refine w_alt ?_ ?_ | refine zE ?_ | refine zE0 ?_)
        | with_reducible (first | refine zI fun y hy => ?_ | refine zL ?_ | refine zS ?_ | refine zA fun _ => ?_ | refine zV ?_ | refine zC ?_ | refine zG ?_ | refine zU ?_ | refine zG0 ?_ | refine zU0 ?_ | refine zF ?_)
        | with_reducible (first | refine zX ?_ | refine zD fun _ => ?_ | refine zD0 ?_ | refine zN ?_ | refine zF0 ?_ | refine zX0 ?_ | refine z1 ?_ | refine z2 ?_ | refine z3 ?_ | refine z4 ?_ | refine z5 ?_ | refine z6 ?_ | refine z7 ?_ | refine z8 ?_ | refine y1 ?_ | refine y2 ?_ | refine y3 ?_ | refine y4 ?_ | refine y5 ?_ | refine y6 ?_ | refine y7 ?_ | refine y8 ?_ | refine Rt.p (fun _ => ?_) fun _ => ?_)
        | ((with_reducible apply w_ixM); (focus exact rfl); (focus exact rfl); case' hk => intro y hy) | ((with_reducible (first | apply w_val | apply q_ends)); (focus exact rfl)))
      exact ⟨(), congrArg AV.bool (dec_nat _ _), rfl, rfl, trivial⟩
    | cons b0 b =>
      refine RawC.walk (H := hint93 Try.prog) ir93 Try.func93 rfl rfl rfl ?_
      unfold ir93
      repeat' (first
        | with_reducible (first | refine Rd.p ?_ | refine w_alt ?_ ?_ | refine zE ?_ | refine zE0 ?_)
        | with_reducible (first | refine zI fun y hy => ?_ | refine zL ?_ | refine zS ?_ | refine zA fun _ => ?_ | refine zV ?_ | refine zC ?_ | refine zG ?_ | refine zU ?_ | refine zG0 ?_ | refine zU0 ?_ | refine zF ?_)
        | with_reducible (first | refine zX ?_ | refine zD fun _ => ?_ | refine zD0 ?_ | refine zN ?_ | refine zF0 ?_ | refine zX0 ?_ | refine z1 ?_ | refine z2 ?_ | refine z3 ?_ | refine z4 ?_ | refine z5 ?_ | refine z6 ?_ | refine z7 ?_ | refine z8 ?_ | refine y1 ?_ | refine y2 ?_ | refine y3 ?_ | refine y4 ?_ | refine y5 ?_ | refine y6 ?_ | refine y7 ?_ | refine y8 ?_ | refine Rt.p (fun _ => ?_) fun _ => ?_)
        | ((with_reducible apply w_ixM); (focus exact rfl); (focus exact rfl); case' hk => intro y hy) | ((with_reducible (first | apply w_val | apply q_ends)); (focus exact rfl)))
      exact ⟨(), congrArg AV.bool (dec_nat _ _), rfl, rfl, trivial⟩
  · cases p with
    | nil => exact absurd rfl hne
    | cons p0 p =>
      cases b with
      | nil =>
        rw [if_pos (by simp)]
        refine RawC.walk (H := hint93 Try.prog) ir93 Try.func93 rfl rfl rfl ?_
        unfold ir93
        repeat' (first
          | with_reducible (first | refine Rd.p ?_ | refine w_alt ?_ ?_ | refine zE ?_ | refine zE0 ?_)
          | with_reducible (first | refine zI fun y hy => ?_ | refine zL ?_ | refine zS ?_ | refine zA fun _ => ?_ | refine zV ?_ | refine zC ?_ | refine zG ?_ | refine zU ?_ | refine zG0 ?_ | refine zU0 ?_ | refine zF ?_)
          | with_reducible (first | refine zX ?_ | refine zD fun _ => ?_ | refine zD0 ?_ | refine zN ?_ | refine zF0 ?_ | refine zX0 ?_ | refine z1 ?_ | refine z2 ?_ | refine z3 ?_ | refine z4 ?_ | refine z5 ?_ | refine z6 ?_ | refine z7 ?_ | refine z8 ?_ | refine y1 ?_ | refine y2 ?_ | refine y3 ?_ | refine y4 ?_ | refine y5 ?_ | refine y6 ?_ | refine y7 ?_ | refine y8 ?_ | refine Rt.p (fun _ => ?_) fun _ => ?_)
          | ((with_reducible apply w_ixM); (focus exact rfl); (focus exact rfl); case' hk => intro y hy) | ((with_reducible (first | apply w_val | apply q_ends)); (focus exact rfl)))
        all_goals first | exact ⟨(), congrArg AV.bool (dec_nat _ _), rfl, rfl, trivial⟩ | (exfalso; simp only [List.length_cons, List.length_nil] at *; omega)
      | cons b0 b =>
        by_cases hl : (b0 :: b).length < (p0 :: p).length
        · rw [if_pos hl]
          refine RawC.walk (H := hint93 Try.prog) ir93 Try.func93 rfl rfl rfl ?_
          unfold ir93
          repeat' (first
            | with_reducible (first | refine Rd.p ?_ | refine w_alt ?_ ?_ | refine zE ?_ | refine zE0 ?_)
            | with_reducible (first | refine zI fun y hy => ?_ | refine zL ?_ | refine zS ?_ | refine zA fun _ => ?_ | refine zV ?_ | refine zC ?_ | refine zG ?_ | refine zU ?_ | refine zG0 ?_ | refine zU0 ?_ | refine zF ?_)
            | with_reducible (first | refine zX ?_ | refine zD fun _ => ?_ | refine zD0 ?_ | refine zN ?_ | refine zF0 ?_ | refine zX0 ?_ | refine z1 ?_ | refine z2 ?_ | refine z3 ?_ | refine z4 ?_ | refine z5 ?_ | refine z6 ?_ | refine z7 ?_ | refine z8 ?_ | refine y1 ?_ | refine y2 ?_ | refine y3 ?_ | refine y4 ?_ | refine y5 ?_ | refine y6 ?_ | refine y7 ?_ | refine y8 ?_ | refine Rt.p (fun _ => ?_) fun _ => ?_)
            | ((with_reducible apply w_ixM); (focus exact rfl); (focus exact rfl); case' hk => intro y hy) | ((with_reducible (first | apply w_val | apply q_ends)); (focus exact rfl)))
          all_goals first | exact ⟨(), congrArg AV.bool (dec_nat _ _), rfl, rfl, trivial⟩ | (exfalso; simp only [List.length_cons, List.length_nil] at *; omega)
        · rw [if_neg hl]
          refine RawC.walk (H := hint93 Try.prog) ir93 Try.func93 rfl rfl rfl ?_
          unfold ir93
          repeat' (first
            | with_reducible (first | refine Rd.p ?_ | refine w_alt ?_ ?_ | refine zE ?_ | refine zE0 ?_)
            | with_reducible (first | refine zI fun y hy => ?_ | refine zL ?_ | refine zS ?_ | refine zA fun _ => ?_ | refine zV ?_ | refine zC ?_ | refine zG ?_ | refine zU ?_ | refine zG0 ?_ | refine zU0 ?_ | refine zF ?_)
            | with_reducible (first | refine zX ?_ | refine zD fun _ => ?_ | refine zD0 ?_ | refine zN ?_ | refine zF0 ?_ | refine zX0 ?_ | refine z1 ?_ | refine z2 ?_ | refine z3 ?_ | refine z4 ?_ | refine z5 ?_ | refine z6 ?_ | refine z7 ?_ | refine z8 ?_ | refine y1 ?_ | refine y2 ?_ | refine y3 ?_ | refine y4 ?_ | refine y5 ?_ | refine y6 ?_ | refine y7 ?_ | refine y8 ?_ | refine Rt.p (fun _ => ?_) fun _ => ?_)
            | ((with_reducible apply w_ixM); (focus exact rfl); (focus exact rfl); case' hk => intro y hy) | ((with_reducible (first | apply w_val | apply q_ends)); (focus exact rfl)))
          all_goals first | exact ⟨(), congrArg AV.bool (dec_nat _ _), rfl, rfl, trivial⟩ | (exfalso; simp only [List.length_cons, List.length_nil] at *; omega)
def planS (s : Sea) (g0 g1 g2 g3 g4 g5 g6 g7 : Nat) (b : List Int) (kv : List ((Int × Int) × Int)) : List (Nat × (Nat × Res)) :=
  [(1000, (g0, .row [.clo (.func 93) [] [.ref 1005 g5 0, .ref 1006 g6 0]])), (1001, (g1, .row (seC s))), (1002, (g2, .row [.int .i64 (combF s.ss)])), (1003, (g3, .row [.map 1007 g7])),
   (1004, (g4, .row [.clo (.func 125) [] [.ref 1000 g0 0, .ref 1001 g1 0, .ref 1002 g2 0, .ref 1003 g3 0, .ref 1004 g4 0]])), (1005, (g5, .row [optI b])), (1006, (g6, .row (seC s))), (1007, (g7, .row [.mpv (kvK kv) (kvV kv)]))]
theorem want1_call {s : Sea} {σ : Sig} {d j5 j6 : Nat} {Q : AV → Sig → Prop} (g5 g6 : Nat) (b p : List Int) (a : AV) (r : Int) (ha : NowV a p) (hp : p.length < 1000) (hb : b.length < 1000) (hg : s.gs.length < 1000)
    (h5 : σ j5 = (g5, .row [optI b])) (h6 : σ j6 = (g6, .row (seC s))) (hj : renOK [(1000, j5), (1001, j6)] = true) (hjj : Nat.beq j6 j5 = false) (hQ : Q (.bool (want1 s b p r).2) (upd (upd σ j6 (g6, .row (seC s))) j5 (g5, .row [optI (want1 s b p r).1]))) :
    ACall Try.prog 93 [a, .int .i64 r, .ref j5 g5 0, .ref j6 g6 0] σ d Q := by
  have ho : ∀ (ρ : List (Nat × Nat)) (l : List Int), ren ρ (optI l) = optI l := fun ρ l => by cases l <;> rfl
  refine ACall.liftS (want1_s s g5 g6 b p a r ha hp hb hg) [(1000, j5), (1001, j6)] none hj ?_ ?_ ⟨⟨_, by rw [h5]⟩, ⟨_, by rw [h6]⟩, trivial⟩ (fun _ => rfl) ?_
  · have h1 : lk (flipL [(1000, j5), (1001, j6)]) j5 = some 1000 := by simp [flipL, lk]
    have h2 : lk (flipL [(1000, j5), (1001, j6)]) j6 = some 1001 := by
      have : j5 ≠ j6 := fun h => by subst h; simp at hjj
      simp [flipL, lk, ne_beq this]
    rcases ha with ⟨rfl, _⟩ | ⟨rfl, _⟩
    · show _ = ren _ _ :: ren _ _ :: ren _ _ :: ren _ _ :: _
      simp only [ren, h1, h2]; rfl
    · show _ = ren _ _ :: ren _ _ :: ren _ _ :: ren _ _ :: _
      simp only [ren, h1, h2]; rfl
  · show _ = [(1000, ((σ j5).1, renR _ (σ j5).2)), (1001, ((σ j6).1, renR _ (σ j6).2))]
    rw [h5, h6]; simp only [renR, renL, ho]; rfl
  · rintro u av rfl
    show Q _ (upd (upd σ j6 (g6, renR _ (.row _))) j5 (g5, renR _ (.row _)))
    simp only [renR, renL, ho]; exact hQ
theorem w_lenN {P : Program} {K : (Nat → AV) → Sig → Prop} {e : Nat → AV} {σ : Sig} {l : List Int} {d : Nat} {x : IOpd} {r : List IStep} (hx : NowV (x.ev e) l)
    (hk : stepsW P r K (upd e d (.int .i64 l.length)) σ) : stepsW P (⟨some d, none, .len false x⟩ :: r) K e σ := by
  refine w_val (v := .int .i64 l.length) (p := True) ?_ trivial hk
  show lenO false (x.ev e) = _
  rcases hx with ⟨h, rfl⟩ | ⟨h, _⟩
  · rw [h]; rfl
  · rw [h]; show some _ = some _; rw [show ((iR l).length) = l.length from List.length_map ..]
theorem renL_opt (ρ : List (Nat × Nat)) (l : List Int) : ren ρ (optI l) = optI l := by cases l <;> rfl
theorem grow1_call {s : Sea} {σ : Sig} {d : Nat} {Q : AV → Sig → Prop} (g0 g1 g2 g3 g4 g5 g6 g7 : Nat) (a a' : AV) (r : Int) (b p : List Int) (kv : List ((Int × Int) × Int)) (R : List Int × List ((Int × Int) × Int) → Prop)
    (H : RawC Try.prog 125 [a, .int .i64 r, .ref 1000 g0 0, .ref 1001 g1 0, .ref 1002 g2 0, .ref 1003 g3 0, .ref 1004 g4 0] (sg (planS s g0 g1 g2 g3 g4 g5 g6 g7 b kv)) (SR (fun (x : List Int × List ((Int × Int) × Int)) v => v = .tup [] ∧ R x) (fun x => planS s g0 g1 g2 g3 g4 g5 g6 g7 x.1 x.2))) (ha : a = ren (flipL [(1000, 1000), (1001, 1001), (1002, 1002), (1003, 1003), (1004, 1004), (1005, 1005), (1006, 1006), (1007, 1007)]) a')
    (h0 : σ 1000 = (g0, .row [.clo (.func 93) [] [.ref 1005 g5 0, .ref 1006 g6 0]])) (h1 : σ 1001 = (g1, .row (seC s))) (h2 : σ 1002 = (g2, .row [.int .i64 (combF s.ss)])) (h3 : σ 1003 = (g3, .row [.map 1007 g7])) (h4 : σ 1004 = (g4, .row [.clo (.func 125) [] [.ref 1000 g0 0, .ref 1001 g1 0, .ref 1002 g2 0, .ref 1003 g3 0, .ref 1004 g4 0]])) (h5 : σ 1005 = (g5, .row [optI b])) (h6 : σ 1006 = (g6, .row (seC s))) (h7 : σ 1007 = (g7, .row [.mpv (kvK kv) (kvV kv)]))
    (hQ : ∀ x, R x → Q (.tup []) (upd (upd (upd (upd (upd (upd (upd (upd σ 1007 (g7, .row [.mpv (kvK x.2) (kvV x.2)])) 1006 (g6, .row (seC s))) 1005 (g5, .row [optI x.1])) 1004 (g4, .row [.clo (.func 125) [] [.ref 1000 g0 0, .ref 1001 g1 0, .ref 1002 g2 0, .ref 1003 g3 0, .ref 1004 g4 0]])) 1003 (g3, .row [.map 1007 g7])) 1002 (g2, .row [.int .i64 (combF s.ss)])) 1001 (g1, .row (seC s))) 1000 (g0, .row [.clo (.func 93) [] [.ref 1005 g5 0, .ref 1006 g6 0]]))) :
    ACall Try.prog 125 [a', .int .i64 r, .ref 1000 g0 0, .ref 1001 g1 0, .ref 1002 g2 0, .ref 1003 g3 0, .ref 1004 g4 0] σ d Q := by
  refine ACall.liftS H [(1000, 1000), (1001, 1001), (1002, 1002), (1003, 1003), (1004, 1004), (1005, 1005), (1006, 1006), (1007, 1007)] none rfl ?_ ?_ ⟨⟨_, by rw [h0]⟩, ⟨_, by rw [h1]⟩, ⟨_, by rw [h2]⟩, ⟨_, by rw [h3]⟩, ⟨_, by rw [h4]⟩, ⟨_, by rw [h5]⟩, ⟨_, by rw [h6]⟩, ⟨_, by rw [h7]⟩, trivial⟩ (fun _ => rfl) ?_
  · rw [ha]; rfl
  · show _ = [(1000, ((σ 1000).1, renR _ (σ 1000).2)), (1001, ((σ 1001).1, renR _ (σ 1001).2)), (1002, ((σ 1002).1, renR _ (σ 1002).2)), (1003, ((σ 1003).1, renR _ (σ 1003).2)), (1004, ((σ 1004).1, renR _ (σ 1004).2)), (1005, ((σ 1005).1, renR _ (σ 1005).2)), (1006, ((σ 1006).1, renR _ (σ 1006).2)), (1007, ((σ 1007).1, renR _ (σ 1007).2))]
    rw [h0, h1, h2, h3, h4, h5, h6, h7]; simp only [renR, renL, renL_opt]; rfl
  · rintro x av ⟨rfl, hR⟩
    have := hQ x hR
    show Q _ (upd (upd (upd (upd (upd (upd (upd (upd σ 1007 (g7, renR _ (.row [.mpv (kvK x.2) (kvV x.2)]))) 1006 (g6, renR _ (.row (seC s)))) 1005 (g5, renR _ (.row [optI x.1]))) 1004 (g4, renR _ (.row [.clo (.func 125) [] [.ref 1000 g0 0, .ref 1001 g1 0, .ref 1002 g2 0, .ref 1003 g3 0, .ref 1004 g4 0]]))) 1003 (g3, renR _ (.row [.map 1007 g7]))) 1002 (g2, renR _ (.row [.int .i64 (combF s.ss)]))) 1001 (g1, renR _ (.row (seC s)))) 1000 (g0, renR _ (.row [.clo (.func 93) [] [.ref 1005 g5 0, .ref 1006 g6 0]])))
    simp only [renR, renL, renL_opt]; exact this
theorem grow1_s (s : Sea) (g0 g1 g2 g3 g4 g5 g6 g7 : Nat) (ok : OkS s) : ∀ (k : Nat) (p : List Int) (a : AV) (r : Int) (b : List Int) (kv : List ((Int × Int) × Int)), p.length + k = s.gs.length → NowV a p → (∀ x ∈ p, 0 ≤ x ∧ x < combF s.ss) → 0 ≤ r → r ≤ 12 * p.length → b.length ≤ 9 → (∀ q, mget kv q = metN s.gs p q) →
    RawC Try.prog 125 [a, .int .i64 r, .ref 1000 g0 0, .ref 1001 g1 0, .ref 1002 g2 0, .ref 1003 g3 0, .ref 1004 g4 0] (sg (planS s g0 g1 g2 g3 g4 g5 g6 g7 b kv))
      (SR (fun (x : List Int × List ((Int × Int) × Int)) v => v = .tup [] ∧ x.1 = growF s (want1 s) k p r b ∧ (∀ q, mget x.2 q = metN s.gs p q) ∧ x.1.length ≤ 9) (fun x => planS s g0 g1 g2 g3 g4 g5 g6 g7 x.1 x.2))
  | 0, p, a, r, b, kv, hk, ha, hp, hr0, hr1, hb, hkv => by
    have h9 := ok.g9
    have hNV := ha
    have hw9 : (want1 s b p r).1.length ≤ 9 := by
      unfold want1; split
      · exact hb
      · split
        · show p.length ≤ 9; omega
        · exact hb
    rcases ha with ⟨rfl, hp0⟩ | ⟨rfl, hne⟩
    all_goals
      (try have h0 : p.length = 0 := by rw [hp0]; rfl)
      refine RawC.walk (H := hint125 Try.prog) ir125 Try.func125 rfl rfl rfl ?_
      unfold ir125
      repeat' (first
        | with_reducible (first | refine Rd.p ?_ | refine w_alt ?_ ?_ | refine zE ?_ | refine zE0 ?_)
        | with_reducible (first | refine zI fun y hy => ?_ | refine zL ?_ | refine zS ?_ | refine zA fun _ => ?_ | refine zV ?_ | refine zC ?_ | refine zG ?_ | refine zU ?_ | refine zG0 ?_ | refine zU0 ?_ | refine zF ?_)
        | ((with_reducible refine acall_id ?_); (refine want1_call _ _ b p _ r hNV (by omega) (by omega) (by omega) rfl rfl rfl rfl ?_))
        | with_reducible (first | refine zX ?_ | refine zD fun _ => ?_ | refine zD0 ?_ | refine zN ?_ | refine zF0 ?_ | refine zX0 ?_ | refine z1 ?_ | refine z2 ?_ | refine z3 ?_ | refine z4 ?_ | refine z5 ?_ | refine z6 ?_ | refine z7 ?_ | refine z8 ?_ | refine y1 ?_ | refine y2 ?_ | refine y3 ?_ | refine y4 ?_ | refine y5 ?_ | refine y6 ?_ | refine y7 ?_ | refine y8 ?_ | refine Rt.p (fun _ => ?_) fun _ => ?_)
        | ((with_reducible apply w_ixM); (focus exact rfl); (focus exact rfl); case' hk => intro y hy) | ((with_reducible (first | apply w_val | apply q_ends)); (focus exact rfl)))
      all_goals exact ⟨((want1 s b p r).1, kv), ⟨rfl, rfl, hkv, hw9⟩, (by repeat' (first | exact slots_nil | apply slots_cons | rfl | (rw [map_snoc]; rfl) | (rw [len_snoc]; rfl) | (rw [hS]; rfl) | (rw [hS, map_snoc]; rfl) | (refine int_eq ?_; (try dsimp only); omega) | (refine congrArg AV.bool ?_; simp_all; done)))⟩
  | k + 1, p, a, r, b, kv, hk, ha, hp, hr0, hr1, hb, hkv => by
    have h9 := ok.g9
    have hNV := ha
    have hw9 : (want1 s b p r).1.length ≤ 9 := by
      unfold want1; split
      · exact hb
      · split
        · show p.length ≤ 9; omega
        · exact hb
    obtain ⟨f, hf⟩ : ∃ f : List Int → Nat → List Int, f = fun (st : List Int) (n : Nat) => growF s (want1 s) k (p ++ [(n : Int)]) (r + againN s.gs p (n : Int)) st := ⟨_, rfl⟩
    obtain ⟨T, hT⟩ : ∃ T : Nat, T = (min (combF s.ss) (usedF p + 1)).toNat := ⟨_, rfl⟩
    obtain ⟨b1, hb1⟩ : ∃ b1, b1 = (want1 s b p r).1 := ⟨_, rfl⟩
    have hgr : growF s (want1 s) (k + 1) p r b = if (want1 s b p r).2 = true then foldI f T 0 b1 else b1 := by rw [growF, hf, hT, hb1]
    rw [hgr]
    rw [← hb1] at hw9
    have hcb := combF_bd s.ss.length s.ss rfl ok.s6
    have hcb2 : combF s.ss ≤ 1296 := by
      have h4 := ok.s4
      have : (6 : Int) ^ s.ss.length ≤ 1296 := by
        rcases (by omega : s.ss.length = 0 ∨ s.ss.length = 1 ∨ s.ss.length = 2 ∨ s.ss.length = 3 ∨ s.ss.length = 4) with h | h | h | h | h
        all_goals (rw [h]; decide)
      omega
    have hub := usedF_bd p hp (by omega)
    have hg12 := ok.g12 _ (gAt_mem (show p.length < s.gs.length by omega))
    have hmb := metN_bd s.gs p (0, 0) ok.g12
    have hcl := cloneO_c p a ha (by omega)
    have hag : ∀ n : Nat, 0 ≤ againN s.gs p n ∧ againN s.gs p n ≤ 12 := by
      intro n
      have : ((gAt s.gs p.length).filter fun g => decide (0 < metN s.gs p (g, (n : Int)))).length ≤ (gAt s.gs p.length).length := List.length_filter_le _ _
      unfold againN; omega
    have hpn : ∀ n : Nat, (p ++ [(n : Int)]).length = p.length + 1 := fun n => by simp
    rcases ha with ⟨rfl, hp0⟩ | ⟨rfl, hne⟩
    all_goals
      (try have h0 : p.length = 0 := by rw [hp0]; rfl)
      refine RawC.walk (H := hint125 Try.prog) ir125 Try.func125 rfl rfl rfl ?_
      unfold ir125
      repeat' (first
        | with_reducible (first | refine Rd.p ?_ | refine w_alt ?_ ?_ | refine zE ?_ | refine zE0 ?_)
        | (first | refine w_ixLL (n := p.length) rfl rfl (by omega) ?_ | (refine w_ixLL (n := 0) rfl rfl (by omega) ?_; rw [show gAt s.gs 0 = gAt s.gs p.length from by rw [h0]]))
        | with_reducible (first | refine zI fun y hy => ?_ | refine zL ?_ | refine zS ?_ | refine zA fun _ => ?_ | refine zV ?_ | refine zC ?_ | refine zG ?_ | refine zU ?_ | refine zG0 ?_ | refine zU0 ?_ | refine zF ?_)
        | ((with_reducible refine acall_id ?_); (refine want1_call _ _ b p _ r hNV (by omega) (by omega) (by omega) rfl rfl rfl rfl ?_; rw [← hb1]))
        | with_reducible (first | refine zX ?_ | refine zD fun _ => ?_ | refine zD0 ?_ | refine zN ?_ | refine zF0 ?_ | refine zX0 ?_ | refine z1 ?_ | refine z2 ?_ | refine z3 ?_ | refine z4 ?_ | refine z5 ?_ | refine z6 ?_ | refine z7 ?_ | refine z8 ?_ | refine y1 ?_ | refine y2 ?_ | refine y3 ?_ | refine y4 ?_ | refine y5 ?_ | refine y6 ?_ | refine y7 ?_ | refine y8 ?_ | refine Rt.p (fun _ => ?_) fun _ => ?_)
        | ((with_reducible apply w_ixM); (focus exact rfl); (focus exact rfl); case' hk => intro y hy) | ((with_reducible (first | apply w_val | apply q_ends)); (focus exact rfl)))
      · rename_i hc
        rw [if_neg (by simp [hc])]
        exact ⟨(b1, kv), ⟨rfl, rfl, hkv, hw9⟩, (by repeat' (first | exact slots_nil | apply slots_cons | rfl | (rw [map_snoc]; rfl) | (rw [len_snoc]; rfl) | (rw [hS]; rfl) | (rw [hS, map_snoc]; rfl) | (refine int_eq ?_; (try dsimp only); omega) | (refine congrArg AV.bool ?_; simp_all; done)))⟩
      rename_i hc
      rw [if_pos hc]
      refine w_loopK [0, 1, 4, 5, 6, 9, 34, 35] [1000, 1001, 1002, 1003, 1004, 1005, 1006, 1007] (fun x : List Int × List Int => p = x.1 ++ x.2) (fun x => x.2.length) (fun x => [(36, .int .i64 x.1.length), (10, .int .i64 (usedF x.1))]) (fun _ => []) ([], p) rfl ⟨rfl, rfl, trivial⟩ trivial ?_
      rintro ⟨pre, post⟩ hpp e σ
      dsimp only at hpp ⊢
      have hlen := congrArg List.length hpp
      rw [List.length_append] at hlen
      cases post with
      | cons x post =>
        simp only [List.length_cons] at hlen
        first
          | (exfalso; omega)
          | (have hx := hp x (by rw [hpp]; simp)
             have hux := usedF_snoc pre x
             repeat' (first
               | with_reducible (first | refine Rd.p ?_ | refine w_alt ?_ ?_ | refine zE ?_ | refine zE0 ?_)
               | (refine w_ixP (pre := pre) (y := x) (post := post) hpp rfl rfl ?_)
               | with_reducible (first | refine zI fun y hy => ?_ | refine zL ?_ | refine zS ?_ | refine zA fun _ => ?_ | refine zV ?_ | refine zC ?_ | refine zG ?_ | refine zU ?_ | refine zG0 ?_ | refine zU0 ?_ | refine zF ?_)
               | with_reducible (first | refine zX ?_ | refine zD fun _ => ?_ | refine zD0 ?_ | refine zN ?_ | refine zF0 ?_ | refine zX0 ?_ | refine z1 ?_ | refine z2 ?_ | refine z3 ?_ | refine z4 ?_ | refine z5 ?_ | refine z6 ?_ | refine z7 ?_ | refine z8 ?_ | refine y1 ?_ | refine y2 ?_ | refine y3 ?_ | refine y4 ?_ | refine y5 ?_ | refine y6 ?_ | refine y7 ?_ | refine y8 ?_ | refine Rt.p (fun _ => ?_) fun _ => ?_)
               | ((with_reducible apply w_ixM); (focus exact rfl); (focus exact rfl); case' hk => intro y hy) | ((with_reducible (first | apply w_val | apply q_ends)); (focus exact rfl)))
             refine q_loop (pre ++ [x], post) ?_ ?_ (slots_cons (by show AV.int .i64 _ = AV.int .i64 _; refine int_eq ?_; simp) (slots_cons (by show AV.int .i64 _ = AV.int .i64 _; rw [hux]) slots_nil)) trivial (by repeat' (first | exact kept_nil | apply kept_cons | rfl)) (by repeat' (first | exact kept_nil | apply kept_cons | rfl))
             · dsimp only; rw [hpp]; simp
             · simp)
      | nil =>
        rw [List.append_nil] at hpp
        subst hpp
        simp only [List.length_nil] at hlen
        repeat' (first
          | with_reducible (first | refine Rd.p ?_ | refine w_alt ?_ ?_ | refine zE ?_ | refine zE0 ?_)
          | with_reducible (first | refine zI fun y hy => ?_ | refine zL ?_ | refine zS ?_ | refine zA fun _ => ?_ | refine zV ?_ | refine zC ?_ | refine zG ?_ | refine zU ?_ | refine zG0 ?_ | refine zU0 ?_ | refine zF ?_)
          | with_reducible (first | refine zX ?_ | refine zD fun _ => ?_ | refine zD0 ?_ | refine zN ?_ | refine zF0 ?_ | refine zX0 ?_ | refine z1 ?_ | refine z2 ?_ | refine z3 ?_ | refine z4 ?_ | refine z5 ?_ | refine z6 ?_ | refine z7 ?_ | refine z8 ?_ | refine y1 ?_ | refine y2 ?_ | refine y3 ?_ | refine y4 ?_ | refine y5 ?_ | refine y6 ?_ | refine y7 ?_ | refine y8 ?_ | refine Rt.p (fun _ => ?_) fun _ => ?_)
          | ((with_reducible apply w_ixM); (focus exact rfl); (focus exact rfl); case' hk => intro y hy) | ((with_reducible (first | apply w_val | apply q_ends)); (focus exact rfl)))
        refine w_loopK [0, 1, 5, 6, 9, 48] [1000, 1001, 1002, 1003, 1004, 1006] (fun x : Nat × List Int × List ((Int × Int) × Int) => x.1 ≤ T ∧ foldI f T 0 b1 = foldI f (T - x.1) x.1 x.2.1 ∧ (∀ q, mget x.2.2 q = metN s.gs p q) ∧ x.2.1.length ≤ 9) (fun x => T - x.1) (fun x => [(49, .int .i64 x.1)]) (fun x => [(1005, (g5, .row [optI x.2.1])), (1007, (g7, .row [.mpv (kvK x.2.2) (kvV x.2.2)]))]) (0, b1, kv) ⟨Nat.zero_le _, rfl, hkv, hw9⟩ ⟨rfl, trivial⟩ ⟨rfl, rfl, trivial⟩ ?_
        rintro ⟨n, b', kv'⟩ ⟨hn, hfo, hkv', hb9⟩ e σ
        dsimp only at hn hfo hkv' hb9 ⊢
        by_cases hnT : n = T
        · rw [hnT, Nat.sub_self, foldI] at hfo
          repeat' (first
            | with_reducible (first | refine Rd.p ?_ | refine w_alt ?_ ?_ | refine zE ?_ | refine zE0 ?_)
            | with_reducible (first | refine zI fun y hy => ?_ | refine zL ?_ | refine zS ?_ | refine zA fun _ => ?_ | refine zV ?_ | refine zC ?_ | refine zG ?_ | refine zU ?_ | refine zG0 ?_ | refine zU0 ?_ | refine zF ?_)
            | with_reducible (first | refine zX ?_ | refine zD fun _ => ?_ | refine zD0 ?_ | refine zN ?_ | refine zF0 ?_ | refine zX0 ?_ | refine z1 ?_ | refine z2 ?_ | refine z3 ?_ | refine z4 ?_ | refine z5 ?_ | refine z6 ?_ | refine z7 ?_ | refine z8 ?_ | refine y1 ?_ | refine y2 ?_ | refine y3 ?_ | refine y4 ?_ | refine y5 ?_ | refine y6 ?_ | refine y7 ?_ | refine y8 ?_ | refine Rt.p (fun _ => ?_) fun _ => ?_)
            | ((with_reducible apply w_ixM); (focus exact rfl); (focus exact rfl); case' hk => intro y hy) | ((with_reducible (first | apply w_val | apply q_ends)); (focus exact rfl)))
          exact ⟨(b', kv'), ⟨rfl, hfo.symm, hkv', hb9⟩, (by repeat' (first | exact slots_nil | apply slots_cons | rfl | (rw [map_snoc]; rfl) | (rw [len_snoc]; rfl) | (rw [hS]; rfl) | (rw [hS, map_snoc]; rfl) | (refine int_eq ?_; (try dsimp only); omega) | (refine congrArg AV.bool ?_; simp_all; done)))⟩
        · have hnT2 : n < T := by omega
          rw [show T - n = (T - (n + 1)) + 1 by omega, foldI] at hfo
          have hfn : f b' n = growF s (want1 s) k (p ++ [(n : Int)]) (r + againN s.gs p (n : Int)) b' := by rw [hf]
          have hagn := hag n
          have hpn1 := hpn n
          repeat' (first
            | with_reducible (first | refine Rd.p ?_ | refine w_alt ?_ ?_ | refine zE ?_ | refine zE0 ?_)
            | with_reducible (first | refine zI fun y hy => ?_ | refine zL ?_ | refine zS ?_ | refine zA fun _ => ?_ | refine zV ?_ | refine zC ?_ | refine zG ?_ | refine zU ?_ | refine zG0 ?_ | refine zU0 ?_ | refine zF ?_)
            | ((with_reducible refine acall_id ?_); (refine again_call kv' g7 (gAt s.gs p.length) n hg12 rfl rfl ?_; intro ys ag hNa hys))
            | with_reducible (first | refine zX ?_ | refine zD fun _ => ?_ | refine zD0 ?_ | refine zN ?_ | refine zF0 ?_ | refine zX0 ?_ | refine z1 ?_ | refine z2 ?_ | refine z3 ?_ | refine z4 ?_ | refine z5 ?_ | refine z6 ?_ | refine z7 ?_ | refine z8 ?_ | refine y1 ?_ | refine y2 ?_ | refine y3 ?_ | refine y4 ?_ | refine y5 ?_ | refine y6 ?_ | refine y7 ?_ | refine y8 ?_ | refine Rt.p (fun _ => ?_) fun _ => ?_)
            | ((with_reducible apply w_ixM); (focus exact rfl); (focus exact rfl); case' hk => intro y hy) | ((with_reducible (first | apply w_val | apply q_ends)); (focus exact rfl)))
          have hpx : ∀ x ∈ p ++ [(n : Int)], 0 ≤ x ∧ x < combF s.ss := by
            intro x hx
            rcases List.mem_append.1 hx with h | h
            · exact hp x h
            · have : x = (n : Int) := by simpa using h
              omega
          have hl2 : (ys.length : Int) = againN s.gs p (n : Int) := by rw [hys.1.length_eq, againL_len kv' s.gs p n hkv']
          repeat' (first
            | with_reducible (first | refine Rd.p ?_ | refine w_alt ?_ ?_ | refine zE ?_ | refine zE0 ?_)
            | (refine w_lenN (l := ys) (by exact hNa) ?_)
            | with_reducible (first | refine zI fun y hy => ?_ | refine zL ?_ | refine zS ?_ | refine zA fun _ => ?_ | refine zV ?_ | refine zC ?_ | refine zG ?_ | refine zU ?_ | refine zG0 ?_ | refine zU0 ?_ | refine zF ?_)
            | ((with_reducible refine acall_id ?_); (refine add_call kv' g7 (gAt s.gs p.length) n 1 (by omega) (by omega) (fun k => by rw [hkv' k]; have := metN_bd s.gs p k ok.g12; omega) rfl rfl ?_; intro kv1 hkv1; have hkvx : ∀ q, mget kv1 q = metN s.gs (p ++ [(n : Int)]) q := fun q => by rw [hkv1, hkv', metN_snoc _ _ _ _ (by omega)]))
            | ((with_reducible refine acall_id ?_); refine ACall.liftS hcl [] (some 2) rfl rfl rfl trivial (fun _ => rfl) ?_; rintro _ _ rfl)
            | ((with_reducible refine acall_id ?_); (refine grow1_call g0 g1 g2 g3 g4 g5 g6 g7 _ _ _ b' (p ++ [(n : Int)]) kv1 _ (grow1_s s g0 g1 g2 g3 g4 g5 g6 g7 ok k (p ++ [(n : Int)]) (.slc 1 (iR (p ++ [(n : Int)])) .non) (r + ys.length) b' kv1 (by omega) (.inr ⟨rfl, by simp⟩) hpx (by omega) (by omega) hb9 hkvx) rfl rfl rfl rfl rfl rfl rfl rfl rfl ?_; rintro ⟨b2, kv2⟩ ⟨hb2, hkv2, hb29⟩; dsimp only at hb2 hkv2 hb29 ⊢))
            | ((with_reducible refine acall_id ?_); (refine add_call kv2 g7 (gAt s.gs p.length) n (-1) (by omega) (by omega) (fun k => by rw [hkv2 k]; have := metN_bd s.gs (p ++ [(n : Int)]) k ok.g12; omega) rfl rfl ?_; intro kv3 hkv3))
            | with_reducible (first | refine zX ?_ | refine zD fun _ => ?_ | refine zD0 ?_ | refine zN ?_ | refine zF0 ?_ | refine zX0 ?_ | refine z1 ?_ | refine z2 ?_ | refine z3 ?_ | refine z4 ?_ | refine z5 ?_ | refine z6 ?_ | refine z7 ?_ | refine z8 ?_ | refine y1 ?_ | refine y2 ?_ | refine y3 ?_ | refine y4 ?_ | refine y5 ?_ | refine y6 ?_ | refine y7 ?_ | refine y8 ?_ | refine Rt.p (fun _ => ?_) fun _ => ?_)
            | ((with_reducible apply w_ixM); (focus exact rfl); (focus exact rfl); case' hk => intro y hy) | ((with_reducible (first | apply w_val | apply q_ends)); (focus exact rfl)))
          rw [hl2, ← hfn] at hb2
          refine q_loop (n + 1, b2, kv3) ⟨hnT2, by rw [hfo, hb2], ?_, hb29⟩ ?_ (slots_cons (by show AV.int .i64 _ = AV.int .i64 _; refine int_eq ?_; simp) slots_nil) (by exact ⟨rfl, rfl, trivial⟩) (by repeat' (first | exact kept_nil | apply kept_cons | rfl)) (by repeat' (first | exact kept_nil | apply kept_cons | rfl))
          · intro q; show mget kv3 q = _
            rw [hkv3, hkv2, metN_snoc _ _ _ _ (by omega)]; split <;> omega
          · show T - (n + 1) < T - n; omega
end Go.Abs
