/- A part of the proofs of the laws of this seat: contracts of the functions that they reach, each proved of the program's form in Lean. No condition beyond those that each contract names. -/
import Derived.Test.YtmekfgjlcaonjaaC13
import Derived.Test.YtmekfgjlcaonjaaC12
import Derived.Test.YtmekfgjlcaonjaaC11
import Derived.Test.YtmekfgjlcaonjaaC10
import Derived.Test.YtmekfgjlcaonjaaC9
import Derived.Test.YtmekfgjlcaonjaaC8
import Derived.Test.YtmekfgjlcaonjaaC7
import Derived.Test.YtmekfgjlcaonjaaC5
import Derived.Test.YtmekfgjlcaonjaaC4
import Derived.Test.YtmekfgjlcaonjaaC2
import Derived.Test.YtmekfgjlcaonjaaC1
import Derived.Test.YtmekfgjlcaonjaaB
set_option linter.unusedVariables false
set_option linter.unusedSimpArgs false
set_option maxRecDepth 20000
set_option maxHeartbeats 4000000
namespace Go.Abs
open Go.Proofs
/-- aloeswood/aloeswoodref09.Combinations -/
def ir57 : IFn :=
  ⟨20, [(2, none)], (.seq (.ops [⟨(some 1), none, (.box 2 (.t 0))⟩,
    ⟨(some 2), none, (.mov (.k (.int .i64 0)))⟩])
  (.seq (.ops [⟨(some 3), none, (.mov (.k (.int .i64 1)))⟩])
  (.seq (.seq (.ops [⟨(some 4), none, (.mov (.k (.int .i64 0)))⟩])
  (.blk 0 (.loop (.seq (.seq (.ops [⟨(some 5), none, (.mov (.t 4))⟩,
        ⟨(some 6), none, (.flA 0 (.t 1))⟩,
        ⟨(some 7), none, (.ld 1 false (.t 6))⟩,
        ⟨(some 8), none, (.len false (.t 7))⟩,
        ⟨(some 9), none, (.bin .lss (.t 5) (.t 8))⟩])
      (.cnd (.t 9)
        .skip
        (.exit 0)))
      (.seq (.blk 1 (.ops [⟨(some 12), none, (.mov (.t 3))⟩,
          ⟨(some 13), none, (.flA 0 (.t 1))⟩,
          ⟨(some 14), none, (.ld 1 false (.t 13))⟩,
          ⟨(some 15), none, (.mov (.t 4))⟩,
          ⟨(some 16), none, (.ixA 1 (.t 14) (.t 15))⟩,
          ⟨(some 17), none, (.ld 1 false (.t 16))⟩,
          ⟨(some 18), none, (.bin .mul (.t 12) (.t 17))⟩,
          ⟨(some 3), none, (.mov (.t 18))⟩]))
      (.ops [⟨(some 10), none, (.mov (.t 4))⟩,
        ⟨(some 11), none, (.bin .add (.t 10) (.k (.int .i64 1)))⟩,
        ⟨(some 4), none, (.mov (.t 11))⟩]))))))
  (.seq (.ops [⟨(some 19), none, (.mov (.t 3))⟩,
    ⟨(some 2), none, (.mov (.t 19))⟩])
  .ret))))⟩
def hint57 (P : Program) : Hint := {}
theorem combR_c (s : Sea) (h1 : s.ss.length ≤ 4) (h2 : ∀ x ∈ s.ss, 1 ≤ x ∧ x ≤ 6) : Fn0 Try.prog 57 [seA s] (fun v => v = .int .i64 (combF s.ss)) := by
  refine RawC.walk (H := hint57 Try.prog) ir57 Try.func57 rfl rfl rfl ?_
  unfold ir57
  repeat' (first
    | with_reducible (first | refine Rd.p ?_ | refine w_alt ?_ ?_ | refine zE ?_ | refine zE0 ?_)
    | with_reducible (first | refine zI fun y hy => ?_ | refine zL ?_ | refine zS ?_ | refine zA fun _ => ?_ | refine zV ?_ | refine zC ?_ | refine zG ?_ | refine zU ?_ | refine zG0 ?_ | refine zU0 ?_ | refine zF ?_)
    | with_reducible (first | refine zX ?_ | refine zD fun _ => ?_ | refine zD0 ?_ | refine zN ?_ | refine zF0 ?_ | refine zX0 ?_ | refine z1 ?_ | refine z2 ?_ | refine z3 ?_ | refine z4 ?_ | refine z5 ?_ | refine z6 ?_ | refine z7 ?_ | refine z8 ?_ | refine y1 ?_ | refine y2 ?_ | refine y3 ?_ | refine y4 ?_ | refine y5 ?_ | refine y6 ?_ | refine y7 ?_ | refine y8 ?_ | refine Rt.p (fun _ => ?_) fun _ => ?_)
    | ((with_reducible apply w_ixM); (focus exact rfl); (focus exact rfl); case' hk => intro y hy) | ((with_reducible (first | apply w_val | apply q_ends)); (focus exact rfl)))
  refine w_loopK [1] [1] (fun x : List Int × List Int => s.ss = x.1 ++ x.2) (fun x => x.2.length) (fun x => [(4, .int .i64 x.1.length), (3, .int .i64 (combF x.1))]) (fun _ => []) ([], s.ss) rfl ⟨rfl, rfl, trivial⟩ trivial ?_
  rintro ⟨pre, post⟩ hp e σ
  dsimp only at hp ⊢
  have hlen := congrArg List.length hp
  rw [List.length_append] at hlen
  cases post with
  | nil =>
    rw [List.append_nil] at hp
    simp only [List.length_nil] at hlen
    repeat' (first
      | with_reducible (first | refine Rd.p ?_ | refine w_alt ?_ ?_ | refine zE ?_ | refine zE0 ?_)
      | with_reducible (first | refine zI fun y hy => ?_ | refine zL ?_ | refine zS ?_ | refine zA fun _ => ?_ | refine zV ?_ | refine zC ?_ | refine zG ?_ | refine zU ?_ | refine zG0 ?_ | refine zU0 ?_ | refine zF ?_)
      | with_reducible (first | refine zX ?_ | refine zD fun _ => ?_ | refine zD0 ?_ | refine zN ?_ | refine zF0 ?_ | refine zX0 ?_ | refine z1 ?_ | refine z2 ?_ | refine z3 ?_ | refine z4 ?_ | refine z5 ?_ | refine z6 ?_ | refine z7 ?_ | refine z8 ?_ | refine y1 ?_ | refine y2 ?_ | refine y3 ?_ | refine y4 ?_ | refine y5 ?_ | refine y6 ?_ | refine y7 ?_ | refine y8 ?_ | refine Rt.p (fun _ => ?_) fun _ => ?_)
      | ((with_reducible apply w_ixM); (focus exact rfl); (focus exact rfl); case' hk => intro y hy) | ((with_reducible (first | apply w_val | apply q_ends)); (focus exact rfl)))
    rw [hp]; rfl
  | cons a post =>
    simp only [List.length_cons] at hlen
    have hb := combF_bd (pre ++ [a]).length (pre ++ [a]) rfl fun x hx => h2 x (by rw [hp]; simp at hx ⊢; rcases hx with h | h <;> simp [h])
    rw [combF_snoc] at hb
    have h6 : (6 : Int) ^ (pre ++ [a]).length ≤ 1296 := by
      have h7 : (pre ++ [a]).length ≤ 4 := by simp; omega
      rcases (by omega : (pre ++ [a]).length = 0 ∨ (pre ++ [a]).length = 1 ∨ (pre ++ [a]).length = 2 ∨ (pre ++ [a]).length = 3 ∨ (pre ++ [a]).length = 4) with h | h | h | h | h
      all_goals (rw [h]; decide)
    repeat' (first
      | with_reducible (first | refine Rd.p ?_ | refine w_alt ?_ ?_ | refine zE ?_ | refine zE0 ?_)
      | (refine w_ixP (pre := pre) (y := a) (post := post) hp rfl rfl ?_)
      | with_reducible (first | refine zI fun y hy => ?_ | refine zL ?_ | refine zS ?_ | refine zA fun _ => ?_ | refine zV ?_ | refine zC ?_ | refine zG ?_ | refine zU ?_ | refine zG0 ?_ | refine zU0 ?_ | refine zF ?_)
      | with_reducible (first | refine zX ?_ | refine zD fun _ => ?_ | refine zD0 ?_ | refine zN ?_ | refine zF0 ?_ | refine zX0 ?_ | refine z1 ?_ | refine z2 ?_ | refine z3 ?_ | refine z4 ?_ | refine z5 ?_ | refine z6 ?_ | refine z7 ?_ | refine z8 ?_ | refine y1 ?_ | refine y2 ?_ | refine y3 ?_ | refine y4 ?_ | refine y5 ?_ | refine y6 ?_ | refine y7 ?_ | refine y8 ?_ | refine Rt.p (fun _ => ?_) fun _ => ?_)
      | ((with_reducible apply w_ixM); (focus exact rfl); (focus exact rfl); case' hk => intro y hy) | ((with_reducible (first | apply w_val | apply q_ends)); (focus exact rfl)))
    refine q_loop (pre ++ [a], post) ?_ ?_ (slots_cons (by show AV.int .i64 _ = AV.int .i64 _; refine int_eq ?_; simp) (slots_cons (by show AV.int .i64 _ = AV.int .i64 _; rw [combF_snoc]) slots_nil)) trivial (by repeat' (first | exact kept_nil | apply kept_cons | rfl)) (by repeat' (first | exact kept_nil | apply kept_cons | rfl))
    · dsimp only; rw [hp]; simp
    · simp
def leastI : List Int → Int
  | [] => -1
  | a :: r => r.foldl min a
theorem foldl_min : ∀ (l : List Int) (a : Int), (l.foldl min a = a ∨ l.foldl min a ∈ l) ∧ l.foldl min a ≤ a ∧ ∀ x ∈ l, l.foldl min a ≤ x
  | [], a => ⟨.inl rfl, Int.le_refl _, fun x h => by simp at h⟩
  | b :: r, a => by
    obtain ⟨h1, h2, h3⟩ := foldl_min r (min a b)
    simp only [List.foldl_cons]
    refine ⟨?_, by omega, fun x hx => ?_⟩
    · rcases h1 with h1 | h1
      · rw [h1]
        rcases (by omega : min a b = a ∨ min a b = b) with h | h
        · exact .inl h
        · exact .inr (by rw [h]; simp)
      · exact .inr (by simp [h1])
    · rcases List.mem_cons.1 hx with rfl | hx
      · omega
      · exact h3 x hx
/-- The guests of a gathering who met its combination before. -/
def repL (s : Sea) (p : List Int) (n : Int) : List Int := (gAt s.gs p.length).filter fun g => decide (0 < metN s.gs p (g, n))
theorem repL_len (s : Sea) (p : List Int) (n : Int) : ((repL s p n).length : Int) = againN s.gs p n := rfl
/-- How many repeats there are, at most. -/
theorem repL_bd {s : Sea} (ok : OkS s) {p : List Int} (h : p.length < s.gs.length) (n : Int) : (repL s p n).length ≤ 12 := by
  have h1 : (repL s p n).length ≤ (gAt s.gs p.length).length := List.length_filter_le _ _
  have h2 := ok.g12 _ (gAt_mem h)
  omega
end Go.Abs
