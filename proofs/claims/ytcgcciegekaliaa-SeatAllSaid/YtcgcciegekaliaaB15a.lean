/- A part of the proofs of the laws of this seat: contracts of the functions that they reach, each proved of the program's form in Lean. No condition beyond those that each contract names. -/
import Derived.Test.YtcgcciegekaliaaB0
import Derived.Test.YtcgcciegekaliaaB2
import Derived.Test.YtcgcciegekaliaaB3
import Derived.Test.YtcgcciegekaliaaB4
import Derived.Test.YtcgcciegekaliaaB5
set_option linter.unusedVariables false
set_option linter.unusedSimpArgs false
set_option maxRecDepth 20000
set_option maxHeartbeats 4000000
/-! ### Guests: long lists, copies -/
namespace Go.Abs
open Go.Proofs
variable {P : Program}
/-- The element at a place that is known. -/
theorem w_ixK {K : (Nat → AV) → Sig → Prop} {e : Nat → AV} {σ : Sig} {α : Type} {f : α → List AV} {l : List α} {y : α} {d sz : Nat} {t : Tag} {x i : IOpd} {r : List IStep} {k : IntKind} {n : Int} (hy : l[n.toNat]? = some y) (hn : 0 ≤ n) (hx : x.ev e = .slc sz (l.map f) t) (hi : i.ev e = .int k n)
    (hk : stepsW P r K (upd e d (.pin (f y))) σ) : stepsW P (⟨some d, none, .ixA sz x i⟩ :: r) K e σ :=
  w_ixM hx hi ⟨hn, by have := (List.getElem?_eq_some_iff.1 hy).1; omega⟩ fun y' hy' => by rw [hy] at hy'; cases hy'; exact hk
theorem zK {K : (Nat → AV) → Sig → Prop} {e : Nat → AV} {σ : Sig} {α : Type} {f : α → List AV} {l : List α} {y : α} {d sz : Nat} {t : Tag} {x i : IOpd} {r : List IStep} {k : IntKind} {n : Int} (hy : l[n.toNat]? = some y) (hk : stepsW P r K (upd e d (.pin (f y))) σ) (hx : x.ev e = .slc sz (l.map f) t := by with_unfolding_all exact rfl) (hi : i.ev e = .int k n := by with_unfolding_all exact rfl) (hn : 0 ≤ n := by with_unfolding_all exact sd) : stepsW P (⟨some d, none, .ixA sz x i⟩ :: r) K e σ := w_ixK hy hn hx hi hk
/-- aloeswood/aloeswoodkit.EqGuests -/
def ir25 : IFn :=
  ⟨26, [(4, none)], (.seq (.ops [⟨(some 4), none, (.mov (.k (.bool false)))⟩])
  (.seq (.seq (.ops [⟨(some 6), none, (.mov (.t 0))⟩,
    ⟨(some 7), none, (.len false (.t 6))⟩,
    ⟨(some 8), none, (.mov (.t 1))⟩,
    ⟨(some 9), none, (.len false (.t 8))⟩,
    ⟨(some 10), none, (.bin .neq (.t 7) (.t 9))⟩])
  (.cnd (.t 10)
    (.seq (.ops [⟨(some 4), none, (.mov (.k (.bool false)))⟩])
    .ret)
    .skip))
  (.seq (.seq (.ops [⟨(some 5), none, (.mov (.k (.int .i64 0)))⟩])
  (.blk 0 (.loop (.seq (.seq (.ops [⟨(some 11), none, (.mov (.t 5))⟩,
        ⟨(some 12), none, (.mov (.t 0))⟩,
        ⟨(some 13), none, (.len false (.t 12))⟩,
        ⟨(some 14), none, (.bin .lss (.t 11) (.t 13))⟩])
      (.cnd (.t 14)
        .skip
        (.exit 0)))
      (.seq (.blk 1 (.seq (.ops [⟨(some 17), none, (.mov (.t 0))⟩,
          ⟨(some 18), none, (.mov (.t 5))⟩,
          ⟨(some 19), none, (.ixA 5 (.t 17) (.t 18))⟩,
          ⟨(some 20), none, (.ld 5 true (.t 19))⟩,
          ⟨(some 21), none, (.mov (.t 1))⟩,
          ⟨(some 22), none, (.mov (.t 5))⟩,
          ⟨(some 23), none, (.ixA 5 (.t 21) (.t 22))⟩,
          ⟨(some 24), none, (.ld 5 true (.t 23))⟩,
          ⟨(some 25), none, (.eqn (.flat [.s, .i, .i, .i, .i]) true (.t 20) (.t 24))⟩])
        (.cnd (.t 25)
          (.seq (.ops [⟨(some 4), none, (.mov (.k (.bool false)))⟩])
          .ret)
          .skip)))
      (.ops [⟨(some 15), none, (.mov (.t 5))⟩,
        ⟨(some 16), none, (.bin .add (.t 15) (.k (.int .i64 1)))⟩,
        ⟨(some 5), none, (.mov (.t 16))⟩]))))))
  (.seq (.ops [⟨(some 4), none, (.mov (.k (.bool true)))⟩])
  .ret))))⟩
def hint25 (P : Program) : Hint := {}

/-- aloeswood/aloeswoodlaw08.long -/
def ir15 : IFn :=
  ⟨20, [(2, none)], (.seq (.ops [⟨(some 2), none, (.mov (.k (.bool false)))⟩])
  (.seq (.seq (.ops [⟨(some 3), none, (.mov (.k (.int .i64 0)))⟩])
  (.blk 0 (.loop (.seq (.seq (.ops [⟨(some 4), none, (.mov (.t 3))⟩,
        ⟨(some 5), none, (.mov (.t 0))⟩,
        ⟨(some 6), none, (.len false (.t 5))⟩,
        ⟨(some 7), none, (.bin .lss (.t 4) (.t 6))⟩])
      (.cnd (.t 7)
        .skip
        (.exit 0)))
      (.seq (.blk 1 (.seq (.ops [⟨(some 10), none, (.mov (.t 0))⟩,
          ⟨(some 11), none, (.mov (.t 3))⟩,
          ⟨(some 12), none, (.ixA 5 (.t 10) (.t 11))⟩,
          ⟨(some 13), none, (.flA 0 (.t 12))⟩,
          ⟨(some 14), none, (.ld 1 false (.t 13))⟩,
          ⟨(some 15), none, (.len true (.t 14))⟩,
          ⟨(some 16), none, (.bin .gtr (.t 15) (.k (.int .i64 40)))⟩])
        (.cnd (.t 16)
          (.seq (.ops [⟨(some 2), none, (.mov (.k (.bool true)))⟩])
          .ret)
          .skip)))
      (.ops [⟨(some 8), none, (.mov (.t 3))⟩,
        ⟨(some 9), none, (.bin .add (.t 8) (.k (.int .i64 1)))⟩,
        ⟨(some 3), none, (.mov (.t 9))⟩]))))))
  (.seq (.ops [⟨(some 17), none, (.mov (.t 0))⟩,
    ⟨(some 18), none, (.len false (.t 17))⟩,
    ⟨(some 19), none, (.bin .gtr (.t 18) (.k (.int .i64 14)))⟩,
    ⟨(some 2), none, (.mov (.t 19))⟩])
  .ret)))⟩
def hint15 (P : Program) : Hint := {}

def longB (l : List Guest) : Bool := l.any (fun g => decide (40 < g.name.size)) || decide (14 < l.length)
theorem longB_f {l : List Guest} (h : longB l = false) : l.length ≤ 14 ∧ ∀ g ∈ l, g.name.size ≤ 40 := by
  simp [longB] at h; exact ⟨h.2, h.1⟩
theorem long_c (l : List Guest) (hl : l.length < 2 ^ 63) : Fn0 Try.prog 15 [.slc 5 (gR l) .non] (fun v => v = .bool (longB l)) := by
  refine RawC.walk (H := hint15 Try.prog) ir15 Try.func15 rfl rfl rfl ?_
  unfold ir15
  repeat' (first
    | with_reducible (first | refine Rd.p ?_ | refine zE ?_ | refine zE0 ?_)
    | with_reducible (first | refine zI fun y hy => ?_ | refine zL ?_ | refine zS ?_ | refine zA fun _ => ?_ | refine zV ?_ | refine zC ?_ | refine zG ?_ | refine zU ?_ | refine zG0 ?_ | refine zU0 ?_ | refine zF ?_)
    | with_reducible (first | refine zX ?_ | refine zD fun _ => ?_ | refine zD0 ?_ | refine zN ?_ | refine zF0 ?_ | refine zX0 ?_ | refine z1 ?_ | refine z2 ?_ | refine z3 ?_ | refine z4 ?_ | refine z5 ?_ | refine z6 ?_ | refine z7 ?_ | refine z8 ?_ | refine y1 ?_ | refine y2 ?_ | refine y3 ?_ | refine y4 ?_ | refine y5 ?_ | refine y6 ?_ | refine y7 ?_ | refine y8 ?_ | refine Rt.p (fun _ => ?_) fun _ => ?_)
    | ((with_reducible apply w_ixM); (focus exact rfl); (focus exact rfl); case' hk => intro y hy) | ((with_reducible (first | apply w_val | apply q_ends)); (focus exact rfl)))
  refine w_loopK [0] [] (fun x : List Guest × List Guest => l = x.1 ++ x.2 ∧ x.1.any (fun g => decide (40 < g.name.size)) = false) (fun x => x.2.length) (fun x => [(3, .int .i64 x.1.length)]) (fun _ => []) ([], l) ⟨rfl, rfl⟩ ⟨rfl, trivial⟩ trivial ?_
  rintro ⟨pre, post⟩ ⟨hl2, hb⟩ e σ
  dsimp only at hl2 hb ⊢
  have hlen := congrArg List.length hl2
  cases post with
  | nil =>
    simp only [List.append_nil, List.length_append, List.length_nil] at hlen
    repeat' (first
      | with_reducible (first | refine Rd.p ?_ | refine zE ?_ | refine zE0 ?_)
      | with_reducible (first | refine zI fun y hy => ?_ | refine zL ?_ | refine zS ?_ | refine zA fun _ => ?_ | refine zV ?_ | refine zC ?_ | refine zG ?_ | refine zU ?_ | refine zG0 ?_ | refine zU0 ?_ | refine zF ?_)
      | with_reducible (first | refine zX ?_ | refine zD fun _ => ?_ | refine zD0 ?_ | refine zN ?_ | refine zF0 ?_ | refine zX0 ?_ | refine z1 ?_ | refine z2 ?_ | refine z3 ?_ | refine z4 ?_ | refine z5 ?_ | refine z6 ?_ | refine z7 ?_ | refine z8 ?_ | refine y1 ?_ | refine y2 ?_ | refine y3 ?_ | refine y4 ?_ | refine y5 ?_ | refine y6 ?_ | refine y7 ?_ | refine y8 ?_ | refine Rt.p (fun _ => ?_) fun _ => ?_)
      | ((with_reducible apply w_ixM); (focus exact rfl); (focus exact rfl); case' hk => intro y hy) | ((with_reducible (first | apply w_val | apply q_ends)); (focus exact rfl)))
    refine congrArg AV.bool ?_
    rw [longB, show l.any (fun g => decide (40 < g.name.size)) = false by rw [hl2, List.append_nil]; exact hb]
    simp; omega
  | cons c post =>
    simp only [List.length_append, List.length_cons] at hlen
    repeat' (first
      | with_reducible (first | refine Rd.p ?_ | refine zE ?_ | refine zE0 ?_)
      | (refine w_ixP hl2 rfl rfl ?_)
      | with_reducible (first | refine zI fun y hy => ?_ | refine zL ?_ | refine zS ?_ | refine zA fun _ => ?_ | refine zV ?_ | refine zC ?_ | refine zG ?_ | refine zU ?_ | refine zG0 ?_ | refine zU0 ?_ | refine zF ?_)
      | with_reducible (first | refine zX ?_ | refine zD fun _ => ?_ | refine zD0 ?_ | refine zN ?_ | refine zF0 ?_ | refine zX0 ?_ | refine z1 ?_ | refine z2 ?_ | refine z3 ?_ | refine z4 ?_ | refine z5 ?_ | refine z6 ?_ | refine z7 ?_ | refine z8 ?_ | refine y1 ?_ | refine y2 ?_ | refine y3 ?_ | refine y4 ?_ | refine y5 ?_ | refine y6 ?_ | refine y7 ?_ | refine y8 ?_ | refine Rt.p (fun _ => ?_) fun _ => ?_)
      | ((with_reducible apply w_ixM); (focus exact rfl); (focus exact rfl); case' hk => intro y hy) | ((with_reducible (first | apply w_val | apply q_ends)); (focus exact rfl)))
    · refine congrArg AV.bool ?_
      rename_i h
      have : 40 < c.name.size := by omega
      rw [longB, hl2]; simp [this]
    · refine zQ (pre ++ [c], post) ?_ ?_
      · dsimp only
        refine ⟨by rw [hl2]; simp, ?_⟩
        rw [List.any_append, hb]; simp; omega
      · simp
theorem eqGuests_c (a b : List Guest) (h : a.length < 2 ^ 62) : Fn0 Try.prog 25 [.slc 5 (gR a) .non, .slc 5 (gR b) .non] (fun v => v = .bool (decide (a = b))) := by
  refine RawC.walk (H := hint25 Try.prog) ir25 Try.func25 rfl (by kernel_rfl) rfl ?_
  unfold ir25
  repeat' (first
    | with_reducible (first | refine Rd.p ?_ | refine zE ?_ | refine zE0 ?_)
    | with_reducible (first | refine zI fun y hy => ?_ | refine zL ?_ | refine zS ?_ | refine zA fun _ => ?_ | refine zV ?_ | refine zC ?_ | refine zG ?_ | refine zU ?_ | refine zG0 ?_ | refine zU0 ?_ | refine zF ?_)
    | with_reducible (first | refine zX ?_ | refine zD fun _ => ?_ | refine zD0 ?_ | refine zN ?_ | refine zF0 ?_ | refine zX0 ?_ | refine z1 ?_ | refine z2 ?_ | refine z3 ?_ | refine z4 ?_ | refine z5 ?_ | refine z6 ?_ | refine z7 ?_ | refine z8 ?_ | refine y1 ?_ | refine y2 ?_ | refine y3 ?_ | refine y4 ?_ | refine y5 ?_ | refine y6 ?_ | refine y7 ?_ | refine y8 ?_ | refine Rt.p (fun _ => ?_) fun _ => ?_)
    | ((with_reducible apply w_ixM); (focus exact rfl); (focus exact rfl); case' hk => intro y hy) | ((with_reducible (first | apply w_val | apply q_ends)); (focus exact rfl)))
  · rename_i h; refine congrArg AV.bool ?_; symm; rw [decide_eq_false_iff_not]; intro e; subst e; exact h rfl
  rename_i hlen
  have hab : a.length = b.length := by omega
  refine w_loopK [0, 1] [] (fun x : List Guest × List Guest × List Guest => a = x.1 ++ x.2.1 ∧ b = x.1 ++ x.2.2) (fun x => x.2.1.length) (fun x => [(5, .int .i64 x.1.length)]) (fun _ => []) ([], a, b) ⟨rfl, rfl⟩ ⟨rfl, trivial⟩ trivial ?_
  rintro ⟨pre, pa, pb⟩ ⟨ha, hb⟩ e σ
  dsimp only at ha hb ⊢
  have hla := congrArg List.length ha
  have hlb := congrArg List.length hb
  simp only [List.length_append] at hla hlb
  cases pa with
  | nil =>
    simp only [List.length_nil] at hla
    repeat' (first
      | with_reducible (first | refine Rd.p ?_ | refine zE ?_ | refine zE0 ?_)
      | with_reducible (first | refine zI fun y hy => ?_ | refine zL ?_ | refine zS ?_ | refine zA fun _ => ?_ | refine zV ?_ | refine zC ?_ | refine zG ?_ | refine zU ?_ | refine zG0 ?_ | refine zU0 ?_ | refine zF ?_)
      | with_reducible (first | refine zX ?_ | refine zD fun _ => ?_ | refine zD0 ?_ | refine zN ?_ | refine zF0 ?_ | refine zX0 ?_ | refine z1 ?_ | refine z2 ?_ | refine z3 ?_ | refine z4 ?_ | refine z5 ?_ | refine z6 ?_ | refine z7 ?_ | refine z8 ?_ | refine y1 ?_ | refine y2 ?_ | refine y3 ?_ | refine y4 ?_ | refine y5 ?_ | refine y6 ?_ | refine y7 ?_ | refine y8 ?_ | refine Rt.p (fun _ => ?_) fun _ => ?_)
      | ((with_reducible apply w_ixM); (focus exact rfl); (focus exact rfl); case' hk => intro y hy) | ((with_reducible (first | apply w_val | apply q_ends)); (focus exact rfl)))
    have : pb = [] := List.length_eq_zero_iff.1 (by omega)
    subst this
    refine congrArg AV.bool ?_; symm; rw [decide_eq_true_eq, ha, hb]
  | cons x pa =>
    cases pb with
    | nil => exfalso; simp only [List.length_nil, List.length_cons] at hla hlb; omega
    | cons y pb =>
      simp only [List.length_cons] at hla hlb
      have hxy : (decide (x.name = y.name) && (decide (x.rank = y.rank) && (decide (x.honour = y.honour) && (decide (x.never = y.never) && (decide (x.maybe = y.maybe) && true))))) = decide (x = y) := by
        obtain ⟨n1, r1, h1, e1, m1⟩ := x
        obtain ⟨n2, r2, h2, e2, m2⟩ := y
        rw [Bool.eq_iff_iff]; simp
      repeat' (first
        | with_reducible (first | refine Rd.p ?_ | refine zE ?_ | refine zE0 ?_)
        | (first | refine w_ixP ha rfl rfl ?_ | refine w_ixP hb rfl rfl ?_)
        | with_reducible (first | refine zI fun y hy => ?_ | refine zL ?_ | refine zS ?_ | refine zA fun _ => ?_ | refine zV ?_ | refine zC ?_ | refine zG ?_ | refine zU ?_ | refine zG0 ?_ | refine zU0 ?_ | refine zF ?_)
        | with_reducible (first | refine zX ?_ | refine zD fun _ => ?_ | refine zD0 ?_ | refine zN ?_ | refine zF0 ?_ | refine zX0 ?_ | refine z1 ?_ | refine z2 ?_ | refine z3 ?_ | refine z4 ?_ | refine z5 ?_ | refine z6 ?_ | refine z7 ?_ | refine z8 ?_ | refine y1 ?_ | refine y2 ?_ | refine y3 ?_ | refine y4 ?_ | refine y5 ?_ | refine y6 ?_ | refine y7 ?_ | refine y8 ?_ | refine Rt.p (fun _ => ?_) fun _ => ?_)
        | ((with_reducible apply w_ixM); (focus exact rfl); (focus exact rfl); case' hk => intro y hy) | ((with_reducible (first | apply w_val | apply q_ends)); (focus exact rfl)))
      all_goals (rename_i h; rw [hxy] at h)
      · refine congrArg AV.bool ?_; symm
        rw [decide_eq_false_iff_not]; intro e
        rw [ha, hb] at e
        have := List.append_cancel_left e
        simp at this h
        exact h this.1
      · simp at h
        subst h
        refine zQ (pre ++ [x], pa, pb) ?_ ?_
        · exact ⟨by rw [ha]; simp, by rw [hb]; simp⟩
        · simp
abbrev optS (o : Option (List Int)) : AV := .slc 1 (iR (o.getD [])) .non
theorem sub_opt : ∀ o, Sub (optV o) (optS o)
  | none => Sub.nil
  | some _ => Sub.refl _
theorem ACall.eqO {a b : Option (List Int)} {σ : Sig} {d : Nat} {Q : AV → Sig → Prop} (h : (a.getD []).length < 2 ^ 62) (hQ : Q (.bool (decide (a.getD [] = b.getD []))) σ) : ACall Try.prog 24 [optV a, optV b] σ d Q :=
  ACall.wval (args' := [optS a, optS b]) (.cons (sub_opt a) (.cons (sub_opt b) .nil)) (eq_c (a.getD []) (b.getD []) h) rfl rfl hQ
end Go.Abs
