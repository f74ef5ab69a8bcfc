/- A part of the proofs of the laws of this seat: contracts of the functions that they reach, each proved of the program's form in Lean. No condition beyond those that each contract names. -/
import Derived.Test.YtmekfgjlcaonjaaB
set_option linter.unusedVariables false
set_option linter.unusedSimpArgs false
set_option maxRecDepth 20000
set_option maxHeartbeats 4000000
namespace Go.Abs
open Go.Proofs
structure Lnk where
  f : Int
  t : Int
  lo : Int
  hi : Int
  deriving DecidableEq
structure Chn where
  maker : Int
  lo : Int
  hi : Int
  ls : List Lnk
  deriving DecidableEq
abbrev lR (l : List Lnk) : List (List AV) := l.map fun g => [.int .i64 g.f, .int .i64 g.t, .int .i64 g.lo, .int .i64 g.hi]
abbrev sR (l : List (Int × Int)) : List (List AV) := l.map fun g => [.int .i64 g.1, .int .i64 g.2]
abbrev cC (c : Chn) : List AV := [.int .i64 c.maker, .int .i64 c.lo, .int .i64 c.hi, .slc 4 (lR c.ls) .non]
abbrev cA (c : Chn) : AV := .agg (cC c)
section
variable {P : Program}
/-- A loop of a few rounds. -/
def unr (P : Program) (b : IR) (Q : Post) : Nat → (Nat → AV) → Sig → Prop
  | 0, _, _ => False
  | k + 1, e, σ => awp P b (loopQ (fun n e σ => n = k ∧ unr P b Q k e σ) (k + 1) Q) e σ
theorem w_unr {b : IR} {Q : Post} (k : Nat) {e : Nat → AV} {σ : Sig} (h : unr P b Q k e σ) : awp P (.loop b) Q e σ := by
  refine ⟨fun n e σ => unr P b Q n e σ, k, h, fun n e' σ' h => ?_⟩
  cases n with
  | zero => exact h.elim
  | succ n =>
    refine awp_mono (fun x a s h => ?_) h
    cases x with
    | nor => obtain ⟨m, h1, rfl, h2⟩ := h; exact ⟨_, h1, h2⟩
    | ret => exact h
    | ex j => exact h
instance {b : IR} {Q : Post} {k : Nat} {e : Nat → AV} {σ : Sig} : Rd (unr P b Q (k + 1) e σ) (awp P b (loopQ (fun n e σ => n = k ∧ unr P b Q k e σ) (k + 1) Q) e σ) := ⟨id⟩
instance {b : IR} {Q : Post} {k : Nat} {e : Nat → AV} {σ : Sig} : Rd (loopQ (fun n e σ => n = k ∧ unr P b Q k e σ) (k + 1) Q .nor e σ) (unr P b Q k e σ) := ⟨fun h => ⟨k, Nat.lt_succ_self k, rfl, h⟩⟩
instance {I : Nat → (Nat → AV) → Sig → Prop} {Q : Post} {k i : Nat} {e : Nat → AV} {σ : Sig} : Rd (loopQ I k Q (.ex i) e σ) (Q (.ex i) e σ) := ⟨id⟩
instance {I : Nat → (Nat → AV) → Sig → Prop} {Q : Post} {k : Nat} {e : Nat → AV} {σ : Sig} : Rd (loopQ I k Q .ret e σ) (Q .ret e σ) := ⟨id⟩
end
/-- The error of a span of days. -/
def dayE (lo hi : Int) : Int := if (inB lo 0 100000 && inB hi 0 100000) = true then (if hi < lo then 11 else 0) else 2
def lnkE (l : Lnk) : Int := if (inB l.f 0 19 && inB l.t 0 19) = true then (if l.f = l.t then 3 else dayE l.lo l.hi) else 2
def lnksE : List Lnk → Int
  | [] => 0
  | l :: r => if lnkE l = 0 then lnksE r else lnkE l
/-- The error of a chain, but for its stories. -/
def formE (c : Chn) : Int := if inB c.maker 0 19 = true then (if dayE c.lo c.hi = 0 then (if 7 < c.ls.length then 8 else lnksE c.ls) else dayE c.lo c.hi) else 2
/-- aloeswood/store.within -/
def ir97 : IFn :=
  ⟨15, [(6, none)], (.seq (.ops [⟨(some 6), none, (.mov (.k (.bool false)))⟩])
  (.seq (.ops [⟨(some 7), none, (.mov (.t 1))⟩,
    ⟨(some 8), none, (.mov (.t 0))⟩,
    ⟨(some 9), none, (.bin .leq (.t 7) (.t 8))⟩,
    ⟨(some 10), none, (.mov (.t 9))⟩,
    ⟨(some 11), (some (10, true)), (.mov (.t 0))⟩,
    ⟨(some 12), (some (10, true)), (.mov (.t 2))⟩,
    ⟨(some 13), (some (10, true)), (.bin .leq (.t 11) (.t 12))⟩,
    ⟨(some 14), none, (.pick (.t 10) (.t 13) (.k (.bool false)))⟩,
    ⟨(some 6), none, (.mov (.t 14))⟩])
  .ret))⟩
def hint97 (P : Program) : Hint := {}
/-- aloeswood/store.days -/
def ir122 : IFn :=
  ⟨18, [(2, none)], (.seq (.ops [⟨(some 1), none, (.box 2 (.t 0))⟩,
    ⟨(some 2), none, (.mov (.k (.int .i64 0)))⟩])
  (.seq (.blk 0 (.seq (.seq (.ops [⟨(some 4), none, (.flA 0 (.t 1))⟩,
      ⟨(some 5), none, (.ld 1 false (.t 4))⟩,
      ⟨(some 6), none, (.callF 97 [(.t 5), (.k (.int .i64 0)), (.k (.int .i64 100000))])⟩,
      ⟨(some 7), none, (.not (.t 6))⟩,
      ⟨(some 3), none, (.mov (.t 7))⟩])
    (.cnd (.t 3)
      .skip
      (.ops [⟨(some 8), none, (.flA 1 (.t 1))⟩,
        ⟨(some 9), none, (.ld 1 false (.t 8))⟩,
        ⟨(some 10), none, (.callF 97 [(.t 9), (.k (.int .i64 0)), (.k (.int .i64 100000))])⟩,
        ⟨(some 11), none, (.not (.t 10))⟩,
        ⟨(some 3), none, (.mov (.t 11))⟩])))
    (.cnd (.t 3)
      (.seq (.ops [⟨(some 2), none, (.mov (.k (.int .i64 2)))⟩])
      .ret)
      (.seq (.ops [⟨(some 13), none, (.flA 0 (.t 1))⟩,
        ⟨(some 14), none, (.ld 1 false (.t 13))⟩,
        ⟨(some 15), none, (.flA 1 (.t 1))⟩,
        ⟨(some 16), none, (.ld 1 false (.t 15))⟩,
        ⟨(some 17), none, (.bin .gtr (.t 14) (.t 16))⟩,
        ⟨(some 12), none, (.mov (.t 17))⟩])
      (.cnd (.t 12)
        (.seq (.ops [⟨(some 2), none, (.mov (.k (.int .i64 11)))⟩])
        .ret)
        .skip)))))
  (.seq (.ops [⟨(some 2), none, (.mov (.k (.int .i64 0)))⟩])
  .ret)))⟩
def hint122 (P : Program) : Hint := {}
/-- aloeswood/store.owner -/
def ir104 : IFn :=
  ⟨5, [(2, none)], (.seq (.ops [⟨(some 2), none, (.mov (.k (.bool false)))⟩])
  (.seq (.ops [⟨(some 3), none, (.mov (.t 0))⟩,
    ⟨(some 4), none, (.callF 97 [(.t 3), (.k (.int .i64 0)), (.k (.int .i64 19))])⟩,
    ⟨(some 2), none, (.mov (.t 4))⟩])
  .ret))⟩
def hint104 (P : Program) : Hint := {}
/-- aloeswood/store.formed -/
def ir82 : IFn :=
  ⟨50, [(2, none)], (.seq (.ops [⟨(some 1), none, (.box 4 (.t 0))⟩,
    ⟨(some 2), none, (.mov (.k (.int .i64 0)))⟩])
  (.seq (.seq (.ops [⟨(some 7), none, (.flA 0 (.t 1))⟩,
    ⟨(some 8), none, (.ld 1 false (.t 7))⟩,
    ⟨(some 9), none, (.callF 104 [(.t 8)])⟩,
    ⟨(some 10), none, (.not (.t 9))⟩])
  (.cnd (.t 10)
    (.seq (.ops [⟨(some 2), none, (.mov (.k (.int .i64 2)))⟩])
    .ret)
    .skip))
  (.seq (.seq (.ops [⟨(some 11), none, (.flA 1 (.t 1))⟩,
    ⟨(some 12), none, (.ld 2 true (.t 11))⟩,
    ⟨(some 13), none, (.callF 122 [(.t 12)])⟩,
    ⟨(some 3), none, (.mov (.t 13))⟩])
  (.seq (.ops [⟨(some 14), none, (.mov (.t 3))⟩,
    ⟨(some 15), none, (.bin .neq (.t 14) (.k (.int .i64 0)))⟩])
  (.cnd (.t 15)
    (.seq (.ops [⟨(some 16), none, (.mov (.t 3))⟩,
      ⟨(some 2), none, (.mov (.t 16))⟩])
    .ret)
    .skip)))
  (.seq (.seq (.ops [⟨(some 17), none, (.flA 3 (.t 1))⟩,
    ⟨(some 18), none, (.ld 1 false (.t 17))⟩,
    ⟨(some 19), none, (.len false (.t 18))⟩,
    ⟨(some 20), none, (.bin .gtr (.t 19) (.k (.int .i64 7)))⟩])
  (.cnd (.t 20)
    (.seq (.ops [⟨(some 2), none, (.mov (.k (.int .i64 8)))⟩])
    .ret)
    .skip))
  (.seq (.seq (.ops [⟨(some 21), none, (.flA 3 (.t 1))⟩,
    ⟨(some 22), none, (.ld 1 false (.t 21))⟩,
    ⟨(some 23), none, (.len false (.t 22))⟩,
    ⟨(some 24), none, (.mov (.k (.int .i64 0)))⟩])
  (.blk 0 (.loop (.seq (.ops [⟨(some 25), none, (.bin .lss (.t 24) (.t 23))⟩])
      (.seq (.cnd (.t 25)
        .skip
        (.exit 0))
      (.seq (.blk 1 (.seq (.ops [⟨(some 26), none, (.ixA 4 (.t 22) (.t 24))⟩,
          ⟨(some 27), none, (.ld 4 true (.t 26))⟩,
          ⟨(some 5), none, (.new [(.int .i64 0), (.int .i64 0), (.int .i64 0), (.int .i64 0)])⟩,
          ⟨none, none, (.st 4 (.t 5) (.t 27))⟩])
        (.seq (.blk 2 (.seq (.seq (.ops [⟨(some 29), none, (.flA 0 (.t 5))⟩,
            ⟨(some 30), none, (.ld 1 false (.t 29))⟩,
            ⟨(some 31), none, (.callF 104 [(.t 30)])⟩,
            ⟨(some 32), none, (.not (.t 31))⟩,
            ⟨(some 28), none, (.mov (.t 32))⟩])
          (.cnd (.t 28)
            .skip
            (.ops [⟨(some 33), none, (.flA 1 (.t 5))⟩,
              ⟨(some 34), none, (.ld 1 false (.t 33))⟩,
              ⟨(some 35), none, (.callF 104 [(.t 34)])⟩,
              ⟨(some 36), none, (.not (.t 35))⟩,
              ⟨(some 28), none, (.mov (.t 36))⟩])))
          (.cnd (.t 28)
            (.seq (.ops [⟨(some 2), none, (.mov (.k (.int .i64 2)))⟩])
            .ret)
            (.seq (.ops [⟨(some 38), none, (.flA 0 (.t 5))⟩,
              ⟨(some 39), none, (.ld 1 false (.t 38))⟩,
              ⟨(some 40), none, (.flA 1 (.t 5))⟩,
              ⟨(some 41), none, (.ld 1 false (.t 40))⟩,
              ⟨(some 42), none, (.bin .eql (.t 39) (.t 41))⟩,
              ⟨(some 37), none, (.mov (.t 42))⟩])
            (.cnd (.t 37)
              (.seq (.ops [⟨(some 2), none, (.mov (.k (.int .i64 3)))⟩])
              .ret)
              .skip)))))
        (.seq (.ops [⟨(some 43), none, (.flA 2 (.t 5))⟩,
          ⟨(some 44), none, (.ld 2 true (.t 43))⟩,
          ⟨(some 45), none, (.callF 122 [(.t 44)])⟩,
          ⟨(some 6), none, (.mov (.t 45))⟩])
        (.seq (.ops [⟨(some 46), none, (.mov (.t 6))⟩,
          ⟨(some 47), none, (.bin .neq (.t 46) (.k (.int .i64 0)))⟩])
        (.cnd (.t 47)
          (.seq (.ops [⟨(some 48), none, (.mov (.t 6))⟩,
            ⟨(some 2), none, (.mov (.t 48))⟩])
          .ret)
          .skip))))))
      (.ops [⟨(some 49), none, (.bin .add (.t 24) (.k (.int .i64 1)))⟩,
        ⟨(some 24), none, (.mov (.t 49))⟩])))))))
  (.seq (.ops [⟨(some 2), none, (.mov (.k (.int .i64 0)))⟩])
  .ret))))))⟩
def hint82 (P : Program) : Hint := {}
theorem within_s (n a b : Int) : Fn0 Try.prog 97 [.int .i64 n, .int .i64 a, .int .i64 b] (fun v => v = .bool (inB n a b)) := by
  refine RawC.walk (H := hint97 Try.prog) ir97 Try.func97 rfl rfl rfl ?_
  unfold ir97
  repeat' (first
    | with_reducible (first | refine Rd.p ?_ | refine w_alt ?_ ?_ | refine zE ?_ | refine zE0 ?_)
    | with_reducible (first | refine zI fun y hy => ?_ | refine zL ?_ | refine zS ?_ | refine zA fun _ => ?_ | refine zV ?_ | refine zC ?_ | refine zG ?_ | refine zU ?_ | refine zG0 ?_ | refine zU0 ?_ | refine zF ?_)
    | with_reducible (first | refine zX ?_ | refine zD fun _ => ?_ | refine zD0 ?_ | refine zN ?_ | refine zF0 ?_ | refine zX0 ?_ | refine z1 ?_ | refine z2 ?_ | refine z3 ?_ | refine z4 ?_ | refine z5 ?_ | refine z6 ?_ | refine z7 ?_ | refine z8 ?_ | refine y1 ?_ | refine y2 ?_ | refine y3 ?_ | refine y4 ?_ | refine y5 ?_ | refine y6 ?_ | refine y7 ?_ | refine y8 ?_ | refine Rt.p (fun _ => ?_) fun _ => ?_)
    | ((with_reducible apply w_ixM); (focus exact rfl); (focus exact rfl); case' hk => intro y hy) | ((with_reducible (first | apply w_val | apply q_ends)); (focus exact rfl)))
  all_goals (refine congrArg AV.bool ?_; unfold inB; first | (symm; rw [decide_eq_true_eq]; omega) | (symm; rw [decide_eq_false_iff_not]; omega) | (simp; omega))
theorem days_s (a b : Int) : Fn0 Try.prog 122 [.agg [.int .i64 a, .int .i64 b]] (fun v => v = .int .i64 (dayE a b)) := by
  refine RawC.walk (H := hint122 Try.prog) ir122 Try.func122 rfl rfl rfl ?_
  unfold ir122
  repeat' (first
    | with_reducible (first | refine Rd.p ?_ | refine w_alt ?_ ?_ | refine zE ?_ | refine zE0 ?_)
    | with_reducible (first | refine zI fun y hy => ?_ | refine zL ?_ | refine zS ?_ | refine zA fun _ => ?_ | refine zV ?_ | refine zC ?_ | refine zG ?_ | refine zU ?_ | refine zG0 ?_ | refine zU0 ?_ | refine zF ?_)
    | ((with_reducible refine acall_id ?_); refine ACall.val (within_s _ _ _) rfl rfl ?_)
    | with_reducible (first | refine zX ?_ | refine zD fun _ => ?_ | refine zD0 ?_ | refine zN ?_ | refine zF0 ?_ | refine zX0 ?_ | refine z1 ?_ | refine z2 ?_ | refine z3 ?_ | refine z4 ?_ | refine z5 ?_ | refine z6 ?_ | refine z7 ?_ | refine z8 ?_ | refine y1 ?_ | refine y2 ?_ | refine y3 ?_ | refine y4 ?_ | refine y5 ?_ | refine y6 ?_ | refine y7 ?_ | refine y8 ?_ | refine Rt.p (fun _ => ?_) fun _ => ?_)
    | ((with_reducible apply w_ixM); (focus exact rfl); (focus exact rfl); case' hk => intro y hy) | ((with_reducible (first | apply w_val | apply q_ends)); (focus exact rfl)))
  all_goals (refine congrArg (AV.int .i64) ?_; unfold dayE; simp_all; try omega)
theorem owner_s (a : Int) : Fn0 Try.prog 104 [.int .i64 a] (fun v => v = .bool (inB a 0 19)) := by
  refine RawC.walk (H := hint104 Try.prog) ir104 Try.func104 rfl rfl rfl ?_
  unfold ir104
  repeat' (first
    | with_reducible (first | refine Rd.p ?_ | refine w_alt ?_ ?_ | refine zE ?_ | refine zE0 ?_)
    | with_reducible (first | refine zI fun y hy => ?_ | refine zL ?_ | refine zS ?_ | refine zA fun _ => ?_ | refine zV ?_ | refine zC ?_ | refine zG ?_ | refine zU ?_ | refine zG0 ?_ | refine zU0 ?_ | refine zF ?_)
    | ((with_reducible refine acall_id ?_); refine ACall.val (within_s _ _ _) rfl rfl ?_)
    | with_reducible (first | refine zX ?_ | refine zD fun _ => ?_ | refine zD0 ?_ | refine zN ?_ | refine zF0 ?_ | refine zX0 ?_ | refine z1 ?_ | refine z2 ?_ | refine z3 ?_ | refine z4 ?_ | refine z5 ?_ | refine z6 ?_ | refine z7 ?_ | refine z8 ?_ | refine y1 ?_ | refine y2 ?_ | refine y3 ?_ | refine y4 ?_ | refine y5 ?_ | refine y6 ?_ | refine y7 ?_ | refine y8 ?_ | refine Rt.p (fun _ => ?_) fun _ => ?_)
    | ((with_reducible apply w_ixM); (focus exact rfl); (focus exact rfl); case' hk => intro y hy) | ((with_reducible (first | apply w_val | apply q_ends)); (focus exact rfl)))
  rfl
theorem formed_s (c : Chn) (hl : c.ls.length < 1000) : Fn0 Try.prog 82 [cA c] (fun v => v = .int .i64 (formE c)) := by
  refine RawC.walk (H := hint82 Try.prog) ir82 Try.func82 rfl rfl rfl ?_
  unfold ir82
  repeat' (first
    | with_reducible (first | refine Rd.p ?_ | refine w_alt ?_ ?_ | refine zE ?_ | refine zE0 ?_)
    | with_reducible (first | refine zI fun y hy => ?_ | refine zL ?_ | refine zS ?_ | refine zA fun _ => ?_ | refine zV ?_ | refine zC ?_ | refine zG ?_ | refine zU ?_ | refine zG0 ?_ | refine zU0 ?_ | refine zF ?_)
    | ((with_reducible refine acall_id ?_); refine ACall.val (owner_s _) rfl rfl ?_)
    | ((with_reducible refine acall_id ?_); refine ACall.val (days_s _ _) rfl rfl ?_)
    | with_reducible (first | refine zX ?_ | refine zD fun _ => ?_ | refine zD0 ?_ | refine zN ?_ | refine zF0 ?_ | refine zX0 ?_ | refine z1 ?_ | refine z2 ?_ | refine z3 ?_ | refine z4 ?_ | refine z5 ?_ | refine z6 ?_ | refine z7 ?_ | refine z8 ?_ | refine y1 ?_ | refine y2 ?_ | refine y3 ?_ | refine y4 ?_ | refine y5 ?_ | refine y6 ?_ | refine y7 ?_ | refine y8 ?_ | refine Rt.p (fun _ => ?_) fun _ => ?_)
    | ((with_reducible apply w_ixM); (focus exact rfl); (focus exact rfl); case' hk => intro y hy) | ((with_reducible (first | apply w_val | apply q_ends)); (focus exact rfl)))
  · rename_i h; refine congrArg (AV.int .i64) ?_; rw [formE, if_neg (by simp [h])]
  · rename_i h1 h2; refine congrArg (AV.int .i64) ?_; rw [formE, if_pos h1, if_neg h2]
  · rename_i h1 h2 h3; refine congrArg (AV.int .i64) ?_; rw [formE, if_pos h1, if_pos (by simpa using h2), if_pos (by omega)]
  rename_i h1 h2 h3
  have hf : formE c = lnksE c.ls := by rw [formE, if_pos h1, if_pos (by simpa using h2), if_neg (by omega)]
  rw [hf]
  generalize c.ls = l at *
  refine w_loopK [22, 23] [] (fun x : List Lnk × List Lnk => l = x.1 ++ x.2 ∧ lnksE l = lnksE x.2) (fun x => x.2.length) (fun x => [(24, .int .i64 x.1.length)]) (fun _ => []) ([], l) ⟨rfl, rfl⟩ ⟨rfl, trivial⟩ trivial ?_
  rintro ⟨pre, post⟩ ⟨hp, hb⟩ e σ
  dsimp only at hp hb ⊢
  have hlen := congrArg List.length hp
  cases post with
  | nil =>
    simp only [List.append_nil, List.length_append, List.length_nil] at hlen
    repeat' (first
      | with_reducible (first | refine Rd.p ?_ | refine w_alt ?_ ?_ | refine zE ?_ | refine zE0 ?_)
      | with_reducible (first | refine zI fun y hy => ?_ | refine zL ?_ | refine zS ?_ | refine zA fun _ => ?_ | refine zV ?_ | refine zC ?_ | refine zG ?_ | refine zU ?_ | refine zG0 ?_ | refine zU0 ?_ | refine zF ?_)
      | with_reducible (first | refine zX ?_ | refine zD fun _ => ?_ | refine zD0 ?_ | refine zN ?_ | refine zF0 ?_ | refine zX0 ?_ | refine z1 ?_ | refine z2 ?_ | refine z3 ?_ | refine z4 ?_ | refine z5 ?_ | refine z6 ?_ | refine z7 ?_ | refine z8 ?_ | refine y1 ?_ | refine y2 ?_ | refine y3 ?_ | refine y4 ?_ | refine y5 ?_ | refine y6 ?_ | refine y7 ?_ | refine y8 ?_ | refine Rt.p (fun _ => ?_) fun _ => ?_)
      | ((with_reducible apply w_ixM); (focus exact rfl); (focus exact rfl); case' hk => intro y hy) | ((with_reducible (first | apply w_val | apply q_ends)); (focus exact rfl)))
    rw [hb]; rfl
  | cons d post =>
    simp only [List.length_append, List.length_cons] at hlen
    simp only [lnksE] at hb
    repeat' (first
      | with_reducible (first | refine Rd.p ?_ | refine w_alt ?_ ?_ | refine zE ?_ | refine zE0 ?_)
      | (refine w_ixP hp rfl rfl ?_)
      | with_reducible (first | refine zI fun y hy => ?_ | refine zL ?_ | refine zS ?_ | refine zA fun _ => ?_ | refine zV ?_ | refine zC ?_ | refine zG ?_ | refine zU ?_ | refine zG0 ?_ | refine zU0 ?_ | refine zF ?_)
      | ((with_reducible refine acall_id ?_); refine ACall.val (owner_s _) rfl rfl ?_)
      | ((with_reducible refine acall_id ?_); refine ACall.val (days_s _ _) rfl rfl ?_)
      | with_reducible (first | refine zX ?_ | refine zD fun _ => ?_ | refine zD0 ?_ | refine zN ?_ | refine zF0 ?_ | refine zX0 ?_ | refine z1 ?_ | refine z2 ?_ | refine z3 ?_ | refine z4 ?_ | refine z5 ?_ | refine z6 ?_ | refine z7 ?_ | refine z8 ?_ | refine y1 ?_ | refine y2 ?_ | refine y3 ?_ | refine y4 ?_ | refine y5 ?_ | refine y6 ?_ | refine y7 ?_ | refine y8 ?_ | refine Rt.p (fun _ => ?_) fun _ => ?_)
      | ((with_reducible apply w_ixM); (focus exact rfl); (focus exact rfl); case' hk => intro y hy) | ((with_reducible (first | apply w_val | apply q_ends)); (focus exact rfl)))
    · rename_i h1; refine congrArg (AV.int .i64) ?_; rw [hb]; have : lnkE d = 2 := by rw [lnkE, if_neg (by simp [h1])]
      rw [this]; rfl
    · rename_i h1; refine congrArg (AV.int .i64) ?_; rw [hb]; have : lnkE d = 2 := by rw [lnkE, if_neg (by simp [h1])]
      rw [this]; rfl
    · rename_i h1 h2 h3; refine congrArg (AV.int .i64) ?_; rw [hb]; have : lnkE d = 3 := by rw [lnkE, if_pos (by simp [h1, h2]), if_pos h3]
      rw [this]; rfl
    · rename_i h1 h2 h3 h4; refine congrArg (AV.int .i64) ?_; rw [hb]; have : lnkE d = dayE d.lo d.hi := by rw [lnkE, if_pos (by simp [h1, h2]), if_neg h3]
      rw [this, if_neg h4]
    · rename_i h1 h2 h3 h4
      have : lnkE d = 0 := by rw [lnkE, if_pos (by simp [h1, h2]), if_neg h3]; simpa using h4
      rw [this, if_pos rfl] at hb
      refine zQ (pre ++ [d], post) ?_ ?_
      · exact ⟨by rw [hp]; simp, hb⟩
      · simp
end Go.Abs
