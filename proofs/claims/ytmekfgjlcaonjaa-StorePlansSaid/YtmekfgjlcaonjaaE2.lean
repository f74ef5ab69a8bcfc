/- A part of the proofs of the laws of this seat: contracts of the functions that they reach, each proved of the program's form in Lean. No condition beyond those that each contract names. -/
import Derived.Test.YtmekfgjlcaonjaaE1
import Derived.Test.YtmekfgjlcaonjaaC14
import Derived.Test.YtmekfgjlcaonjaaC13
import Derived.Test.YtmekfgjlcaonjaaC12
import Derived.Test.YtmekfgjlcaonjaaC11
import Derived.Test.YtmekfgjlcaonjaaC10
import Derived.Test.YtmekfgjlcaonjaaC9
import Derived.Test.YtmekfgjlcaonjaaC8
import Derived.Test.YtmekfgjlcaonjaaC7
import Derived.Test.YtmekfgjlcaonjaaC5
import Derived.Test.YtmekfgjlcaonjaaC4
import Derived.Test.YtmekfgjlcaonjaaC2
import Derived.Test.YtmekfgjlcaonjaaC1
import Derived.Test.YtmekfgjlcaonjaaB
set_option linter.unusedVariables false
set_option linter.unusedSimpArgs false
set_option maxRecDepth 20000
set_option maxHeartbeats 4000000
namespace Go.Abs
open Go.Proofs
/-- aloeswood/aloeswoodref09.met -/
def ir127 : IFn :=
  ⟨46, [(10, none)], (.seq (.ops [⟨(some 5), none, (.box 2 (.t 0))⟩,
    ⟨(some 10), none, (.mov (.k (.bool false)))⟩])
  (.seq (.seq (.ops [⟨(some 11), none, (.mov (.k (.int .i64 0)))⟩])
  (.blk 0 (.loop (.seq (.seq (.ops [⟨(some 13), none, (.mov (.t 11))⟩,
        ⟨(some 14), none, (.mov (.t 4))⟩,
        ⟨(some 15), none, (.bin .lss (.t 13) (.t 14))⟩])
      (.cnd (.t 15)
        .skip
        (.exit 0)))
      (.seq (.blk 1 (.seq (.ops [⟨(some 12), none, (.mov (.k (.int .i64 0)))⟩])
        (.blk 2 (.loop (.seq (.seq (.ops [⟨(some 18), none, (.mov (.t 12))⟩,
              ⟨(some 19), none, (.flA 1 (.t 5))⟩,
              ⟨(some 20), none, (.ld 1 false (.t 19))⟩,
              ⟨(some 21), none, (.mov (.t 11))⟩,
              ⟨(some 22), none, (.ixA 1 (.t 20) (.t 21))⟩,
              ⟨(some 23), none, (.ld 1 false (.t 22))⟩,
              ⟨(some 24), none, (.len false (.t 23))⟩,
              ⟨(some 25), none, (.bin .lss (.t 18) (.t 24))⟩])
            (.cnd (.t 25)
              .skip
              (.exit 2)))
            (.seq (.blk 3 (.seq (.ops [⟨(some 28), none, (.flA 1 (.t 5))⟩,
                ⟨(some 29), none, (.ld 1 false (.t 28))⟩,
                ⟨(some 30), none, (.mov (.t 11))⟩,
                ⟨(some 31), none, (.ixA 1 (.t 29) (.t 30))⟩,
                ⟨(some 32), none, (.ld 1 false (.t 31))⟩,
                ⟨(some 33), none, (.mov (.t 12))⟩,
                ⟨(some 34), none, (.ixA 1 (.t 32) (.t 33))⟩,
                ⟨(some 35), none, (.ld 1 false (.t 34))⟩,
                ⟨(some 36), none, (.mov (.t 2))⟩,
                ⟨(some 37), none, (.bin .eql (.t 35) (.t 36))⟩,
                ⟨(some 38), none, (.mov (.t 37))⟩,
                ⟨(some 39), (some (38, true)), (.mov (.t 1))⟩,
                ⟨(some 40), (some (38, true)), (.mov (.t 11))⟩,
                ⟨(some 41), (some (38, true)), (.ixA 1 (.t 39) (.t 40))⟩,
                ⟨(some 42), (some (38, true)), (.ld 1 false (.t 41))⟩,
                ⟨(some 43), (some (38, true)), (.mov (.t 3))⟩,
                ⟨(some 44), (some (38, true)), (.bin .eql (.t 42) (.t 43))⟩,
                ⟨(some 45), none, (.pick (.t 38) (.t 44) (.k (.bool false)))⟩])
              (.cnd (.t 45)
                (.seq (.ops [⟨(some 10), none, (.mov (.k (.bool true)))⟩])
                .ret)
                .skip)))
            (.ops [⟨(some 26), none, (.mov (.t 12))⟩,
              ⟨(some 27), none, (.bin .add (.t 26) (.k (.int .i64 1)))⟩,
              ⟨(some 12), none, (.mov (.t 27))⟩])))))))
      (.ops [⟨(some 16), none, (.mov (.t 11))⟩,
        ⟨(some 17), none, (.bin .add (.t 16) (.k (.int .i64 1)))⟩,
        ⟨(some 11), none, (.mov (.t 17))⟩]))))))
  (.seq (.ops [⟨(some 10), none, (.mov (.k (.bool false)))⟩])
  .ret)))⟩
def hint127 (P : Program) : Hint := {}
/-- aloeswood/aloeswoodref09.repeated -/
def ir106 : IFn :=
  ⟨52, [(6, none), (7, none)], (.seq (.ops [⟨(some 3), none, (.box 2 (.t 0))⟩,
    ⟨(some 6), none, (.mov (.k (.int .i64 0)))⟩,
    ⟨(some 7), none, (.mov (.k (.int .i64 0)))⟩])
  (.seq (.ops [⟨(some 8), none, (.mov (.k (.int .i64 0)))⟩,
    ⟨(some 9), none, (.mov (.k (.int .i64 (-1))))⟩])
  (.seq (.seq (.ops [⟨(some 10), none, (.mov (.k (.int .i64 0)))⟩])
  (.blk 0 (.loop (.seq (.seq (.ops [⟨(some 12), none, (.mov (.t 10))⟩,
        ⟨(some 13), none, (.flA 1 (.t 3))⟩,
        ⟨(some 14), none, (.ld 1 false (.t 13))⟩,
        ⟨(some 15), none, (.mov (.t 2))⟩,
        ⟨(some 16), none, (.ixA 1 (.t 14) (.t 15))⟩,
        ⟨(some 17), none, (.ld 1 false (.t 16))⟩,
        ⟨(some 18), none, (.len false (.t 17))⟩,
        ⟨(some 19), none, (.bin .lss (.t 12) (.t 18))⟩])
      (.cnd (.t 19)
        .skip
        (.exit 0)))
      (.seq (.blk 1 (.seq (.ops [⟨(some 22), none, (.flA 1 (.t 3))⟩,
          ⟨(some 23), none, (.ld 1 false (.t 22))⟩,
          ⟨(some 24), none, (.mov (.t 2))⟩,
          ⟨(some 25), none, (.ixA 1 (.t 23) (.t 24))⟩,
          ⟨(some 26), none, (.ld 1 false (.t 25))⟩,
          ⟨(some 27), none, (.mov (.t 10))⟩,
          ⟨(some 28), none, (.ixA 1 (.t 26) (.t 27))⟩,
          ⟨(some 29), none, (.ld 1 false (.t 28))⟩,
          ⟨(some 11), none, (.mov (.t 29))⟩])
        (.seq (.seq (.ops [⟨(some 30), none, (.ld 2 true (.t 3))⟩,
          ⟨(some 31), none, (.mov (.t 1))⟩,
          ⟨(some 32), none, (.mov (.t 11))⟩,
          ⟨(some 33), none, (.mov (.t 1))⟩,
          ⟨(some 34), none, (.mov (.t 2))⟩,
          ⟨(some 35), none, (.ixA 1 (.t 33) (.t 34))⟩,
          ⟨(some 36), none, (.ld 1 false (.t 35))⟩,
          ⟨(some 37), none, (.mov (.t 2))⟩,
          ⟨(some 38), none, (.callF 127 [(.t 30), (.t 31), (.t 32), (.t 36), (.t 37)])⟩,
          ⟨(some 39), none, (.not (.t 38))⟩])
        (.cnd (.t 39)
          (.exit 1)
          .skip))
        (.seq (.ops [⟨(some 40), none, (.mov (.t 8))⟩,
          ⟨(some 41), none, (.bin .add (.t 40) (.k (.int .i64 1)))⟩,
          ⟨(some 8), none, (.mov (.t 41))⟩])
        (.seq (.ops [⟨(some 42), none, (.mov (.t 9))⟩,
          ⟨(some 43), none, (.bin .lss (.t 42) (.k (.int .i64 0)))⟩,
          ⟨(some 44), none, (.mov (.t 43))⟩,
          ⟨(some 45), (some (44, false)), (.mov (.t 11))⟩,
          ⟨(some 46), (some (44, false)), (.mov (.t 9))⟩,
          ⟨(some 47), (some (44, false)), (.bin .lss (.t 45) (.t 46))⟩,
          ⟨(some 48), none, (.pick (.t 44) (.k (.bool true)) (.t 47))⟩])
        (.cnd (.t 48)
          (.ops [⟨(some 49), none, (.mov (.t 11))⟩,
            ⟨(some 9), none, (.mov (.t 49))⟩])
          .skip))))))
      (.ops [⟨(some 20), none, (.mov (.t 10))⟩,
        ⟨(some 21), none, (.bin .add (.t 20) (.k (.int .i64 1)))⟩,
        ⟨(some 10), none, (.mov (.t 21))⟩]))))))
  (.seq (.ops [⟨(some 50), none, (.mov (.t 8))⟩,
    ⟨(some 51), none, (.mov (.t 9))⟩,
    ⟨(some 6), none, (.mov (.t 50))⟩,
    ⟨(some 7), none, (.mov (.t 51))⟩])
  .ret))))⟩
def hint106 (P : Program) : Hint := {}
/-- Whether a guest met a combination. -/
def metB : List (List Int) → List Int → Int → Int → Bool
  | g :: gs, n :: p, a, c => (decide (a ∈ g) && decide (n = c)) || metB gs p a c
  | _, _, _, _ => false
theorem cntI_nn (a : Int) (g : List Int) : 0 ≤ cntI a g := by unfold cntI; omega
theorem metN_nn (k : Int × Int) : ∀ (gs : List (List Int)) (p : List Int), 0 ≤ metN gs p k
  | [], p => by cases p <;> simp [metN]
  | g :: gs, [] => by simp [metN]
  | g :: gs, n :: p => by
    have h1 := metN_nn k gs p
    have h2 := cntI_nn k.1 g
    simp only [metN]
    split <;> omega
theorem metB_pos (a c : Int) : ∀ (gs : List (List Int)) (p : List Int), metB gs p a c = decide (0 < metN gs p (a, c))
  | [], p => by cases p <;> simp [metB, metN]
  | g :: gs, [] => by simp [metB, metN]
  | g :: gs, n :: p => by
    have h1 := metN_nn (a, c) gs p
    have h2 := cntI_nn a g
    have h3 : 0 < cntI a g ↔ a ∈ g := by unfold cntI; rw [← List.count_pos_iff]; omega
    have e : metB (g :: gs) (n :: p) a c = ((decide (a ∈ g) && decide (n = c)) || metB gs p a c) := rfl
    rw [e, metB_pos a c gs p, Bool.eq_iff_iff]
    simp only [Bool.or_eq_true, Bool.and_eq_true, decide_eq_true_eq, metN]
    by_cases hc : c = n
    · rw [if_pos hc]
      have hc' : n = c := hc.symm
      by_cases ha : a ∈ g
      · have := h3.2 ha
        exact ⟨fun _ => by omega, fun _ => .inl ⟨ha, hc'⟩⟩
      · have : ¬ 0 < cntI a g := fun h => ha (h3.1 h)
        exact ⟨fun h => by rcases h with h | h; exact absurd h.1 ha; omega, fun h => .inr (by omega)⟩
    · rw [if_neg hc]
      exact ⟨fun h => by rcases h with h | h; exact absurd h.2.symm hc; omega, fun h => .inr (by omega)⟩
theorem metB_snoc (a c : Int) : ∀ (gs : List (List Int)) (p : List Int) (n : Int), p.length < gs.length → metB gs (p ++ [n]) a c = (metB gs p a c || (decide (a ∈ gAt gs p.length) && decide (n = c)))
  | [], p, n, h => by simp at h
  | g :: gs, [], n, _ => by cases gs <;> simp [metB, gAt]
  | g :: gs, m :: p, n, h => by
    have ih := metB_snoc a c gs p n (by simpa using h)
    rw [List.cons_append, metB, ih, metB, Bool.or_assoc]
    rfl
theorem take_succ' {l : List Int} {k : Nat} (h : k < l.length) : l.take (k + 1) = l.take k ++ [getI l k] := by
  rw [List.take_add_one]
  congr 1
  simp [getI, h]
theorem rmet_s (s : Sea) (p : List Int) (a c : Int) (k : Nat) (hk : k ≤ p.length) (hk2 : k ≤ s.gs.length) (hp : p.length < 1000) (hg : ∀ l ∈ s.gs, l.length < 1000) : Fn0 Try.prog 127 [seA s, .slc 1 (iR p) .non, .int .i64 a, .int .i64 c, .int .i64 k] (fun v => v = .bool (metB s.gs (p.take k) a c)) := by
  refine RawC.walk (H := hint127 Try.prog) ir127 Try.func127 rfl rfl rfl ?_
  unfold ir127
  repeat' (first
    | with_reducible (first | refine Rd.p ?_ | refine w_alt ?_ ?_ | refine zE ?_ | refine zE0 ?_)
    | with_reducible (first | refine zI fun y hy => ?_ | refine zL ?_ | refine zS ?_ | refine zA fun _ => ?_ | refine zV ?_ | refine zC ?_ | refine zG ?_ | refine zU ?_ | refine zG0 ?_ | refine zU0 ?_ | refine zF ?_)
    | with_reducible (first | refine zX ?_ | refine zD fun _ => ?_ | refine zD0 ?_ | refine zN ?_ | refine zF0 ?_ | refine zX0 ?_ | refine z1 ?_ | refine z2 ?_ | refine z3 ?_ | refine z4 ?_ | refine z5 ?_ | refine z6 ?_ | refine z7 ?_ | refine z8 ?_ | refine y1 ?_ | refine y2 ?_ | refine y3 ?_ | refine y4 ?_ | refine y5 ?_ | refine y6 ?_ | refine y7 ?_ | refine y8 ?_ | refine Rt.p (fun _ => ?_) fun _ => ?_)
    | ((with_reducible apply w_ixM); (focus exact rfl); (focus exact rfl); case' hk => intro y hy) | ((with_reducible (first | apply w_val | apply q_ends)); (focus exact rfl)))
  rename_i g5
  refine w_loopK [1, 2, 3, 4, 5] [5] (fun i : Nat => i ≤ k ∧ metB s.gs (p.take i) a c = false) (fun i => k - i) (fun i => [(11, .int .i64 i)]) (fun _ => []) 0 ⟨Nat.zero_le _, by cases h : s.gs <;> simp [metB]⟩ ⟨rfl, trivial⟩ trivial ?_
  rintro i ⟨hi, hb⟩ e σ
  dsimp only at hi hb ⊢
  by_cases hlt : i < k
  case neg =>
    obtain rfl : i = k := by omega
    rw [hb]
    repeat' (first
      | with_reducible (first | refine Rd.p ?_ | refine w_alt ?_ ?_ | refine zE ?_ | refine zE0 ?_)
      | with_reducible (first | refine zI fun y hy => ?_ | refine zL ?_ | refine zS ?_ | refine zA fun _ => ?_ | refine zV ?_ | refine zC ?_ | refine zG ?_ | refine zU ?_ | refine zG0 ?_ | refine zU0 ?_ | refine zF ?_)
      | with_reducible (first | refine zX ?_ | refine zD fun _ => ?_ | refine zD0 ?_ | refine zN ?_ | refine zF0 ?_ | refine zX0 ?_ | refine z1 ?_ | refine z2 ?_ | refine z3 ?_ | refine z4 ?_ | refine z5 ?_ | refine z6 ?_ | refine z7 ?_ | refine z8 ?_ | refine y1 ?_ | refine y2 ?_ | refine y3 ?_ | refine y4 ?_ | refine y5 ?_ | refine y6 ?_ | refine y7 ?_ | refine y8 ?_ | refine Rt.p (fun _ => ?_) fun _ => ?_)
      | ((with_reducible apply w_ixM); (focus exact rfl); (focus exact rfl); case' hk => intro y hy) | ((with_reducible (first | apply w_val | apply q_ends)); (focus exact rfl)))
    rfl
  have hl := hg _ (gAt_mem (gs := s.gs) (n := i) (by omega))
  have hts := take_succ' (l := p) (k := i) (by omega)
  have hms := metB_snoc a c s.gs (p.take i) (getI p i) (by simp; omega)
  rw [← hts, hb, Bool.false_or, show (p.take i).length = i by simp; omega] at hms
  obtain ⟨G, hG⟩ : ∃ G, G = gAt s.gs i := ⟨_, rfl⟩
  rw [← hG] at hms hl
  have hbig : metB s.gs (p.take (i + 1)) a c = true → metB s.gs (p.take k) a c = true := by
    have key : ∀ m, i + 1 + m ≤ k → metB s.gs (p.take (i + 1)) a c = true → metB s.gs (p.take (i + 1 + m)) a c = true := by
      intro m
      induction m with
      | zero => intro _ h; exact h
      | succ m ih =>
        intro hm h
        have h1 := ih (by omega) h
        have h2 := metB_snoc a c s.gs (p.take (i + 1 + m)) (getI p ((i + 1 + m : Nat) : Int)) (by simp; omega)
        rw [← take_succ' (by omega), h1, Bool.true_or] at h2
        exact h2
    intro h
    have := key (k - (i + 1)) (by omega) h
    rwa [show i + 1 + (k - (i + 1)) = k by omega] at this
  repeat' (first
    | with_reducible (first | refine Rd.p ?_ | refine w_alt ?_ ?_ | refine zE ?_ | refine zE0 ?_)
    | with_reducible (first | refine zI fun y hy => ?_ | refine zL ?_ | refine zS ?_ | refine zA fun _ => ?_ | refine zV ?_ | refine zC ?_ | refine zG ?_ | refine zU ?_ | refine zG0 ?_ | refine zU0 ?_ | refine zF ?_)
    | with_reducible (first | refine zX ?_ | refine zD fun _ => ?_ | refine zD0 ?_ | refine zN ?_ | refine zF0 ?_ | refine zX0 ?_ | refine z1 ?_ | refine z2 ?_ | refine z3 ?_ | refine z4 ?_ | refine z5 ?_ | refine z6 ?_ | refine z7 ?_ | refine z8 ?_ | refine y1 ?_ | refine y2 ?_ | refine y3 ?_ | refine y4 ?_ | refine y5 ?_ | refine y6 ?_ | refine y7 ?_ | refine y8 ?_ | refine Rt.p (fun _ => ?_) fun _ => ?_)
    | ((with_reducible apply w_ixM); (focus exact rfl); (focus exact rfl); case' hk => intro y hy) | ((with_reducible (first | apply w_val | apply q_ends)); (focus exact rfl)))
  refine w_loopK [1, 2, 3, 4, 5, 11] [5] (fun x : List Int × List Int => G = x.1 ++ x.2 ∧ ¬ (a ∈ x.1 ∧ getI p i = c)) (fun x => x.2.length) (fun x => [(12, .int .i64 x.1.length)]) (fun _ => []) ([], G) ⟨rfl, by simp⟩ ⟨rfl, trivial⟩ trivial ?_
  rintro ⟨pre, post⟩ ⟨hp2, hn⟩ e σ
  dsimp only at hp2 hn ⊢
  have hlen := congrArg List.length hp2
  rw [List.length_append] at hlen
  cases post with
  | nil =>
    simp only [List.length_nil] at hlen
    rw [List.append_nil] at hp2
    repeat' (first
      | with_reducible (first | refine Rd.p ?_ | refine w_alt ?_ ?_ | refine zE ?_ | refine zE0 ?_)
      | (refine w_ixLL rfl rfl (by omega) ?_; rw [← hG])
      | with_reducible (first | refine zI fun y hy => ?_ | refine zL ?_ | refine zS ?_ | refine zA fun _ => ?_ | refine zV ?_ | refine zC ?_ | refine zG ?_ | refine zU ?_ | refine zG0 ?_ | refine zU0 ?_ | refine zF ?_)
      | with_reducible (first | refine zX ?_ | refine zD fun _ => ?_ | refine zD0 ?_ | refine zN ?_ | refine zF0 ?_ | refine zX0 ?_ | refine z1 ?_ | refine z2 ?_ | refine z3 ?_ | refine z4 ?_ | refine z5 ?_ | refine z6 ?_ | refine z7 ?_ | refine z8 ?_ | refine y1 ?_ | refine y2 ?_ | refine y3 ?_ | refine y4 ?_ | refine y5 ?_ | refine y6 ?_ | refine y7 ?_ | refine y8 ?_ | refine Rt.p (fun _ => ?_) fun _ => ?_)
      | ((with_reducible apply w_ixM); (focus exact rfl); (focus exact rfl); case' hk => intro y hy) | ((with_reducible (first | apply w_val | apply q_ends)); (focus exact rfl)))
    refine q_loop (i + 1) ⟨by show i + 1 ≤ k; omega, ?_⟩ (by show k - (i + 1) < k - i; omega) (slots_cons (by show AV.int .i64 _ = AV.int .i64 _; refine int_eq ?_; simp) slots_nil) trivial (by repeat' (first | exact kept_nil | apply kept_cons | rfl)) (by repeat' (first | exact kept_nil | apply kept_cons | rfl))
    show metB s.gs (p.take (i + 1)) a c = false
    rw [hms, hp2]
    by_cases h1 : a ∈ pre
    · rw [decide_eq_true h1, decide_eq_false (fun h2 => hn ⟨h1, h2⟩)]; rfl
    · rw [decide_eq_false h1]; rfl
  | cons y post =>
    simp only [List.length_cons] at hlen
    repeat' (first
      | with_reducible (first | refine Rd.p ?_ | refine w_alt ?_ ?_ | refine zE ?_ | refine zE0 ?_)
      | (refine w_ixLL rfl rfl (by omega) ?_; rw [← hG])
      | (refine w_ixP (pre := pre) (y := y) hp2 rfl rfl ?_)
      | with_reducible refine zGi ?_
      | with_reducible (first | refine zI fun y hy => ?_ | refine zL ?_ | refine zS ?_ | refine zA fun _ => ?_ | refine zV ?_ | refine zC ?_ | refine zG ?_ | refine zU ?_ | refine zG0 ?_ | refine zU0 ?_ | refine zF ?_)
      | with_reducible (first | refine zX ?_ | refine zD fun _ => ?_ | refine zD0 ?_ | refine zN ?_ | refine zF0 ?_ | refine zX0 ?_ | refine z1 ?_ | refine z2 ?_ | refine z3 ?_ | refine z4 ?_ | refine z5 ?_ | refine z6 ?_ | refine z7 ?_ | refine z8 ?_ | refine y1 ?_ | refine y2 ?_ | refine y3 ?_ | refine y4 ?_ | refine y5 ?_ | refine y6 ?_ | refine y7 ?_ | refine y8 ?_ | refine Rt.p (fun _ => ?_) fun _ => ?_)
      | ((with_reducible apply w_ixM); (focus exact rfl); (focus exact rfl); case' hk => intro y hy) | ((with_reducible (first | apply w_val | apply q_ends)); (focus exact rfl)))
    · rename_i h1 h2
      rw [hbig (by rw [hms, decide_eq_true (show a ∈ G by rw [hp2]; simp [show y = a from h1]), decide_eq_true (show getI p i = c from h2)]; rfl)]; rfl
    · rename_i h1 h2
      refine q_loop (pre ++ [y], post) ⟨by show G = _; rw [hp2]; simp, fun h => h2 h.2⟩ (by simp) (slots_cons (by show AV.int .i64 _ = AV.int .i64 _; refine int_eq ?_; simp) slots_nil) trivial (by repeat' (first | exact kept_nil | apply kept_cons | rfl)) (by repeat' (first | exact kept_nil | apply kept_cons | rfl))
    · rename_i h1
      refine q_loop (pre ++ [y], post) ⟨by show G = _; rw [hp2]; simp, fun h => ?_⟩ (by simp) (slots_cons (by show AV.int .i64 _ = AV.int .i64 _; refine int_eq ?_; simp) slots_nil) trivial (by repeat' (first | exact kept_nil | apply kept_cons | rfl)) (by repeat' (first | exact kept_nil | apply kept_cons | rfl))
      rcases List.mem_append.1 h.1 with h3 | h3
      · exact hn ⟨h3, h.2⟩
      · rw [List.mem_singleton] at h3; exact h1 h3.symm
/-- The least of some numbers, one more. -/
theorem leastI_snoc (l : List Int) (g : Int) : leastI (l ++ [g]) = if l = [] then g else min (leastI l) g := by
  cases l with
  | nil => rfl
  | cons a r => rw [if_neg (by simp)]; show (r ++ [g]).foldl min a = _; rw [List.foldl_append]; rfl
theorem leastI_nn {l : List Int} (h : ∀ x ∈ l, 0 ≤ x) : l = [] ∧ leastI l = -1 ∨ l ≠ [] ∧ 0 ≤ leastI l := by
  cases l with
  | nil => exact .inl ⟨rfl, rfl⟩
  | cons a r =>
    refine .inr ⟨by simp, ?_⟩
    show 0 ≤ r.foldl min a
    rcases (foldl_min r a).1 with h1 | h1
    · rw [h1]; exact h a (by simp)
    · exact h _ (by simp [h1])
theorem repeated_s (s : Sea) (p r : List Int) (n : Int) (hk2 : p.length < s.gs.length) (hp : (p ++ n :: r).length < 1000) (hg : ∀ l ∈ s.gs, l.length < 1000) (hnn : ∀ l ∈ s.gs, ∀ x ∈ l, 0 ≤ x) :
    Fn0 Try.prog 106 [seA s, .slc 1 (iR (p ++ n :: r)) .non, .int .i64 p.length] (fun v => v = .tup [.int .i64 (repL s p n).length, .int .i64 (leastI (repL s p n))]) := by
  have hlA : (p ++ n :: r).length = p.length + (r.length + 1) := by simp
  have hgm := gAt_mem hk2
  have hl := hg _ hgm
  have hnn0 := hnn _ hgm
  have hm := fun a => rmet_s s (p ++ n :: r) a n p.length (by omega) (by omega) hp hg
  have htk : (p ++ n :: r).take p.length = p := by simp
  simp only [htk, metB_pos] at hm
  obtain ⟨G, hG⟩ : ∃ G, G = gAt s.gs p.length := ⟨_, rfl⟩
  have hrl : repL s p n = G.filter fun g => decide (0 < metN s.gs p (g, n)) := by rw [hG]; rfl
  rw [← hG] at hl hnn0
  rw [hrl]
  refine RawC.walk (H := hint106 Try.prog) ir106 Try.func106 rfl rfl rfl ?_
  unfold ir106
  repeat' (first
    | with_reducible (first | refine Rd.p ?_ | refine w_alt ?_ ?_ | refine zE ?_ | refine zE0 ?_)
    | with_reducible (first | refine zI fun y hy => ?_ | refine zL ?_ | refine zS ?_ | refine zA fun _ => ?_ | refine zV ?_ | refine zC ?_ | refine zG ?_ | refine zU ?_ | refine zG0 ?_ | refine zU0 ?_ | refine zF ?_)
    | with_reducible (first | refine zX ?_ | refine zD fun _ => ?_ | refine zD0 ?_ | refine zN ?_ | refine zF0 ?_ | refine zX0 ?_ | refine z1 ?_ | refine z2 ?_ | refine z3 ?_ | refine z4 ?_ | refine z5 ?_ | refine z6 ?_ | refine z7 ?_ | refine z8 ?_ | refine y1 ?_ | refine y2 ?_ | refine y3 ?_ | refine y4 ?_ | refine y5 ?_ | refine y6 ?_ | refine y7 ?_ | refine y8 ?_ | refine Rt.p (fun _ => ?_) fun _ => ?_)
    | ((with_reducible apply w_ixM); (focus exact rfl); (focus exact rfl); case' hk => intro y hy) | ((with_reducible (first | apply w_val | apply q_ends)); (focus exact rfl)))
  rename_i g3
  refine w_loopK [1, 2, 3] [3] (fun x : List Int × List Int => G = x.1 ++ x.2) (fun x => x.2.length) (fun x => [(10, .int .i64 x.1.length), (8, .int .i64 (x.1.filter fun g => decide (0 < metN s.gs p (g, n))).length), (9, .int .i64 (leastI (x.1.filter fun g => decide (0 < metN s.gs p (g, n)))))]) (fun _ => []) ([], G) rfl ⟨rfl, rfl, rfl, trivial⟩ trivial ?_
  rintro ⟨pre, post⟩ hp2 e σ
  dsimp only at hp2 ⊢
  have hlen := congrArg List.length hp2
  rw [List.length_append] at hlen
  cases post with
  | nil =>
    simp only [List.length_nil] at hlen
    rw [List.append_nil] at hp2
    repeat' (first
      | with_reducible (first | refine Rd.p ?_ | refine w_alt ?_ ?_ | refine zE ?_ | refine zE0 ?_)
      | (refine w_ixLL rfl rfl hk2 ?_; rw [← hG])
      | with_reducible (first | refine zI fun y hy => ?_ | refine zL ?_ | refine zS ?_ | refine zA fun _ => ?_ | refine zV ?_ | refine zC ?_ | refine zG ?_ | refine zU ?_ | refine zG0 ?_ | refine zU0 ?_ | refine zF ?_)
      | with_reducible (first | refine zX ?_ | refine zD fun _ => ?_ | refine zD0 ?_ | refine zN ?_ | refine zF0 ?_ | refine zX0 ?_ | refine z1 ?_ | refine z2 ?_ | refine z3 ?_ | refine z4 ?_ | refine z5 ?_ | refine z6 ?_ | refine z7 ?_ | refine z8 ?_ | refine y1 ?_ | refine y2 ?_ | refine y3 ?_ | refine y4 ?_ | refine y5 ?_ | refine y6 ?_ | refine y7 ?_ | refine y8 ?_ | refine Rt.p (fun _ => ?_) fun _ => ?_)
      | ((with_reducible apply w_ixM); (focus exact rfl); (focus exact rfl); case' hk => intro y hy) | ((with_reducible (first | apply w_val | apply q_ends)); (focus exact rfl)))
    rw [hp2]; rfl
  | cons y post =>
    simp only [List.length_cons] at hlen
    have hmy := hm y
    have hfl := List.length_filter_le (fun g => decide (0 < metN s.gs p (g, n))) pre
    have hls := leastI_nn (l := pre.filter fun g => decide (0 < metN s.gs p (g, n))) fun x hx => hnn0 x (by rw [hp2]; simp [(List.mem_filter.1 hx).1])
    have hy0 := hnn0 y (by rw [hp2]; simp)
    by_cases hY : 0 < metN s.gs p (y, n)
    · rw [decide_eq_true hY] at hmy
      have hfs : ((pre ++ [y]).filter fun g => decide (0 < metN s.gs p (g, n))) = (pre.filter fun g => decide (0 < metN s.gs p (g, n))) ++ [y] := by simp [hY]
      have hle := leastI_snoc (pre.filter fun g => decide (0 < metN s.gs p (g, n))) y
      rw [← hfs] at hle
      have hfn : ((pre ++ [y]).filter fun g => decide (0 < metN s.gs p (g, n))).length = (pre.filter fun g => decide (0 < metN s.gs p (g, n))).length + 1 := by rw [hfs]; simp
      generalize hF : (pre.filter fun g => decide (0 < metN s.gs p (g, n))) = F at *
      generalize hF2 : ((pre ++ [y]).filter fun g => decide (0 < metN s.gs p (g, n))) = F2 at *
      repeat' (first
        | with_reducible (first | refine Rd.p ?_ | refine w_alt ?_ ?_ | refine zE ?_ | refine zE0 ?_)
        | (refine w_ixLL rfl rfl hk2 ?_; rw [← hG])
        | (refine w_ixP (pre := pre) (y := y) hp2 rfl rfl ?_)
        | (refine w_ixP (pre := p) (y := n) (post := r) rfl rfl rfl ?_)
        | with_reducible (first | refine zI fun y hy => ?_ | refine zL ?_ | refine zS ?_ | refine zA fun _ => ?_ | refine zV ?_ | refine zC ?_ | refine zG ?_ | refine zU ?_ | refine zG0 ?_ | refine zU0 ?_ | refine zF ?_)
        | ((with_reducible refine acall_id ?_); refine ACall.val hmy rfl rfl ?_)
        | with_reducible (first | refine zX ?_ | refine zD fun _ => ?_ | refine zD0 ?_ | refine zN ?_ | refine zF0 ?_ | refine zX0 ?_ | refine z1 ?_ | refine z2 ?_ | refine z3 ?_ | refine z4 ?_ | refine z5 ?_ | refine z6 ?_ | refine z7 ?_ | refine z8 ?_ | refine y1 ?_ | refine y2 ?_ | refine y3 ?_ | refine y4 ?_ | refine y5 ?_ | refine y6 ?_ | refine y7 ?_ | refine y8 ?_ | refine Rt.p (fun _ => ?_) fun _ => ?_)
        | ((with_reducible apply w_ixM); (focus exact rfl); (focus exact rfl); case' hk => intro y hy) | ((with_reducible (first | apply w_val | apply q_ends)); (focus exact rfl)))
      all_goals
        refine q_loop (pre ++ [y], post) (by show G = _; rw [hp2]; simp) (by simp) (slots_cons (by show AV.int .i64 _ = AV.int .i64 _; refine int_eq ?_; simp) (slots_cons (by show AV.int .i64 _ = AV.int .i64 _; refine int_eq ?_; dsimp only; rw [hF2, hfn]; try simp) (slots_cons (by
          show AV.int .i64 _ = AV.int .i64 _; refine int_eq ?_; dsimp only; rw [hF2, hle]
          rcases hls with ⟨h1, h2⟩ | ⟨h1, h2⟩
          · first | (rw [if_pos h1]; done) | (exfalso; omega)
          · rw [if_neg h1]; omega) slots_nil))) trivial (by repeat' (first | exact kept_nil | apply kept_cons | rfl)) (by repeat' (first | exact kept_nil | apply kept_cons | rfl))
    · rw [decide_eq_false hY] at hmy
      have hfs : ((pre ++ [y]).filter fun g => decide (0 < metN s.gs p (g, n))) = (pre.filter fun g => decide (0 < metN s.gs p (g, n))) := by simp [hY]
      repeat' (first
        | with_reducible (first | refine Rd.p ?_ | refine w_alt ?_ ?_ | refine zE ?_ | refine zE0 ?_)
        | (refine w_ixLL rfl rfl hk2 ?_; rw [← hG])
        | (refine w_ixP (pre := pre) (y := y) hp2 rfl rfl ?_)
        | (refine w_ixP (pre := p) (y := n) (post := r) rfl rfl rfl ?_)
        | with_reducible (first | refine zI fun y hy => ?_ | refine zL ?_ | refine zS ?_ | refine zA fun _ => ?_ | refine zV ?_ | refine zC ?_ | refine zG ?_ | refine zU ?_ | refine zG0 ?_ | refine zU0 ?_ | refine zF ?_)
        | ((with_reducible refine acall_id ?_); refine ACall.val hmy rfl rfl ?_)
        | with_reducible (first | refine zX ?_ | refine zD fun _ => ?_ | refine zD0 ?_ | refine zN ?_ | refine zF0 ?_ | refine zX0 ?_ | refine z1 ?_ | refine z2 ?_ | refine z3 ?_ | refine z4 ?_ | refine z5 ?_ | refine z6 ?_ | refine z7 ?_ | refine z8 ?_ | refine y1 ?_ | refine y2 ?_ | refine y3 ?_ | refine y4 ?_ | refine y5 ?_ | refine y6 ?_ | refine y7 ?_ | refine y8 ?_ | refine Rt.p (fun _ => ?_) fun _ => ?_)
        | ((with_reducible apply w_ixM); (focus exact rfl); (focus exact rfl); case' hk => intro y hy) | ((with_reducible (first | apply w_val | apply q_ends)); (focus exact rfl)))
      refine q_loop (pre ++ [y], post) (by show G = _; rw [hp2]; simp) (by simp) (slots_cons (by show AV.int .i64 _ = AV.int .i64 _; refine int_eq ?_; simp) (slots_cons (by show AV.int .i64 _ = AV.int .i64 _; dsimp only; rw [hfs]) (slots_cons (by show AV.int .i64 _ = AV.int .i64 _; dsimp only; rw [hfs]) slots_nil))) trivial (by repeat' (first | exact kept_nil | apply kept_cons | rfl)) (by repeat' (first | exact kept_nil | apply kept_cons | rfl))
theorem gathsE_of9 {s : Sea} (h : seaE s = 0) : gathsE s.gs = 0 := by
  unfold seaE at h
  by_cases h0 : s.ss = []
  · rw [if_pos h0] at h; exact absurd h (by decide)
  rw [if_neg h0] at h
  by_cases h1 : 4 < s.ss.length
  · rw [if_pos h1] at h; exact absurd h (by decide)
  rw [if_neg h1] at h
  by_cases h2 : sortsB s.ss = true
  · rw [if_pos h2] at h
    by_cases h3 : 9 < s.gs.length
    · rw [if_pos h3] at h; exact absurd h (by decide)
    rw [if_neg h3] at h; exact h
  · rw [if_neg h2] at h; exact absurd h (by decide)
theorem gathsE_nn : ∀ {gs : List (List Int)}, gathsE gs = 0 → ∀ l ∈ gs, ∀ x ∈ l, 0 ≤ x
  | [], _, l, h => by simp at h
  | g :: gs, h, l, hl => by
    rw [gathsE] at h
    by_cases h0 : g = []
    · rw [if_pos h0] at h; exact absurd h (by decide)
    rw [if_neg h0] at h
    by_cases h1 : gathE [] g = 0
    · rw [if_pos h1] at h
      rcases List.mem_cons.1 hl with rfl | hl
      · intro x hx
        exact ((gathE_nd l [] .nil (fun x h => by simp at h) h1).2 x (by simpa using hx)).1
      · exact gathsE_nn h l hl
    · rw [if_neg h1] at h; exact absurd h h1
end Go.Abs
