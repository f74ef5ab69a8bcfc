/- A part of the proofs of the laws of this seat: contracts of the functions that they reach, each proved of the program's form in Lean. No condition beyond those that each contract names. -/
import Derived.Test.YtmekfgjlcaonjaaC13
import Derived.Test.YtmekfgjlcaonjaaC12
import Derived.Test.YtmekfgjlcaonjaaC11
import Derived.Test.YtmekfgjlcaonjaaC10
import Derived.Test.YtmekfgjlcaonjaaC9
import Derived.Test.YtmekfgjlcaonjaaC8
import Derived.Test.YtmekfgjlcaonjaaC7
import Derived.Test.YtmekfgjlcaonjaaC5
import Derived.Test.YtmekfgjlcaonjaaC4
import Derived.Test.YtmekfgjlcaonjaaC2
import Derived.Test.YtmekfgjlcaonjaaC1
import Derived.Test.YtmekfgjlcaonjaaB
set_option linter.unusedVariables false
set_option linter.unusedSimpArgs false
set_option maxRecDepth 20000
set_option maxHeartbeats 4000000
namespace Go.Abs
open Go.Proofs
/-- aloeswood/aloeswoodref09.Combinations -/
def ir57 : IFn :=
  ⟨20, [(2, none)], (.seq (.ops [⟨(some 1), none, (.box 2 (.t 0))⟩,
    ⟨(some 2), none, (.mov (.k (.int .i64 0)))⟩])
  (.seq (.ops [⟨(some 3), none, (.mov (.k (.int .i64 1)))⟩])
  (.seq (.seq (.ops [⟨(some 4), none, (.mov (.k (.int .i64 0)))⟩])
  (.blk 0 (.loop (.seq (.seq (.ops [⟨(some 5), none, (.mov (.t 4))⟩,
        ⟨(some 6), none, (.flA 0 (.t 1))⟩,
        ⟨(some 7), none, (.ld 1 false (.t 6))⟩,
        ⟨(some 8), none, (.len false (.t 7))⟩,
        ⟨(some 9), none, (.bin .lss (.t 5) (.t 8))⟩])
      (.cnd (.t 9)
        .skip
        (.exit 0)))
      (.seq (.blk 1 (.ops [⟨(some 12), none, (.mov (.t 3))⟩,
          ⟨(some 13), none, (.flA 0 (.t 1))⟩,
          ⟨(some 14), none, (.ld 1 false (.t 13))⟩,
          ⟨(some 15), none, (.mov (.t 4))⟩,
          ⟨(some 16), none, (.ixA 1 (.t 14) (.t 15))⟩,
          ⟨(some 17), none, (.ld 1 false (.t 16))⟩,
          ⟨(some 18), none, (.bin .mul (.t 12) (.t 17))⟩,
          ⟨(some 3), none, (.mov (.t 18))⟩]))
      (.ops [⟨(some 10), none, (.mov (.t 4))⟩,
        ⟨(some 11), none, (.bin .add (.t 10) (.k (.int .i64 1)))⟩,
        ⟨(some 4), none, (.mov (.t 11))⟩]))))))
  (.seq (.ops [⟨(some 19), none, (.mov (.t 3))⟩,
    ⟨(some 2), none, (.mov (.t 19))⟩])
  .ret))))⟩
def hint57 (P : Program) : Hint := {}
/-- aloeswood/store.Repeats -/
def ir49 : IFn :=
  ⟨82, [(4, none), (5, none), (6, none), (7, none)], (.seq (.ops [⟨(some 2), none, (.box 2 (.t 0))⟩,
    ⟨(some 4), none, (.mov (.k (.int .i64 0)))⟩,
    ⟨(some 5), none, (.mov (.k (.int .i64 0)))⟩,
    ⟨(some 6), none, (.mov (.k (.int .i64 0)))⟩,
    ⟨(some 7), none, (.mov (.k (.int .i64 0)))⟩])
  (.seq (.seq (.ops [⟨(some 15), none, (.ld 2 true (.t 2))⟩,
    ⟨(some 16), none, (.callF 62 [(.t 15)])⟩,
    ⟨(some 8), none, (.mov (.t 16))⟩])
  (.seq (.ops [⟨(some 17), none, (.mov (.t 8))⟩,
    ⟨(some 18), none, (.bin .neq (.t 17) (.k (.int .i64 0)))⟩])
  (.cnd (.t 18)
    (.seq (.ops [⟨(some 19), none, (.mov (.t 8))⟩,
      ⟨(some 4), none, (.mov (.k (.int .i64 0)))⟩,
      ⟨(some 5), none, (.mov (.k (.int .i64 0)))⟩,
      ⟨(some 6), none, (.mov (.k (.int .i64 0)))⟩,
      ⟨(some 7), none, (.mov (.t 19))⟩])
    .ret)
    .skip)))
  (.seq (.seq (.ops [⟨(some 20), none, (.mov (.t 1))⟩,
    ⟨(some 21), none, (.len false (.t 20))⟩,
    ⟨(some 22), none, (.flA 1 (.t 2))⟩,
    ⟨(some 23), none, (.ld 1 false (.t 22))⟩,
    ⟨(some 24), none, (.len false (.t 23))⟩,
    ⟨(some 25), none, (.bin .gtr (.t 21) (.t 24))⟩])
  (.cnd (.t 25)
    (.seq (.ops [⟨(some 4), none, (.mov (.k (.int .i64 0)))⟩,
      ⟨(some 5), none, (.mov (.k (.int .i64 0)))⟩,
      ⟨(some 6), none, (.mov (.k (.int .i64 0)))⟩,
      ⟨(some 7), none, (.mov (.k (.int .i64 8)))⟩])
    .ret)
    .skip))
  (.seq (.seq (.ops [⟨(some 26), none, (.mov (.t 1))⟩,
    ⟨(some 27), none, (.len false (.t 26))⟩,
    ⟨(some 28), none, (.mov (.k (.int .i64 0)))⟩])
  (.blk 0 (.loop (.seq (.ops [⟨(some 29), none, (.bin .lss (.t 28) (.t 27))⟩])
      (.seq (.cnd (.t 29)
        .skip
        (.exit 0))
      (.seq (.blk 1 (.seq (.ops [⟨(some 30), none, (.ixA 1 (.t 26) (.t 28))⟩,
          ⟨(some 31), none, (.ld 1 false (.t 30))⟩,
          ⟨(some 10), none, (.mov (.t 31))⟩])
        (.seq (.ops [⟨(some 32), none, (.mov (.t 10))⟩,
          ⟨(some 33), none, (.ld 2 true (.t 2))⟩,
          ⟨(some 34), none, (.callF 98 [(.t 33)])⟩,
          ⟨(some 35), none, (.bin .sub (.t 34) (.k (.int .i64 1)))⟩,
          ⟨(some 36), none, (.callF 97 [(.t 32), (.k (.int .i64 0)), (.t 35)])⟩,
          ⟨(some 37), none, (.not (.t 36))⟩])
        (.cnd (.t 37)
          (.seq (.ops [⟨(some 4), none, (.mov (.k (.int .i64 0)))⟩,
            ⟨(some 5), none, (.mov (.k (.int .i64 0)))⟩,
            ⟨(some 6), none, (.mov (.k (.int .i64 0)))⟩,
            ⟨(some 7), none, (.mov (.k (.int .i64 7)))⟩])
          .ret)
          .skip))))
      (.ops [⟨(some 38), none, (.bin .add (.t 28) (.k (.int .i64 1)))⟩,
        ⟨(some 28), none, (.mov (.t 38))⟩])))))))
  (.seq (.ops [⟨(some 4), none, (.mov (.k (.int .i64 (-1))))⟩,
    ⟨(some 5), none, (.mov (.k (.int .i64 (-1))))⟩])
  (.seq (.ops [⟨(some 39), none, .mkm⟩,
    ⟨(some 11), none, (.mov (.t 39))⟩])
  (.seq (.seq (.ops [⟨(some 40), none, (.mov (.t 1))⟩,
    ⟨(some 41), none, (.len false (.t 40))⟩,
    ⟨(some 42), none, (.mov (.k (.int .i64 0)))⟩])
  (.blk 2 (.loop (.seq (.ops [⟨(some 43), none, (.bin .lss (.t 42) (.t 41))⟩])
      (.seq (.cnd (.t 43)
        .skip
        (.exit 2))
      (.seq (.blk 3 (.seq (.ops [⟨(some 44), none, (.mov (.t 42))⟩,
          ⟨(some 45), none, (.ixA 1 (.t 40) (.t 42))⟩,
          ⟨(some 46), none, (.ld 1 false (.t 45))⟩,
          ⟨(some 12), none, (.mov (.t 44))⟩,
          ⟨(some 13), none, (.mov (.t 46))⟩])
        (.seq (.ops [⟨(some 47), none, (.mov (.t 11))⟩,
          ⟨(some 48), none, (.flA 1 (.t 2))⟩,
          ⟨(some 49), none, (.ld 1 false (.t 48))⟩,
          ⟨(some 50), none, (.mov (.t 12))⟩,
          ⟨(some 51), none, (.ixA 1 (.t 49) (.t 50))⟩,
          ⟨(some 52), none, (.ld 1 false (.t 51))⟩,
          ⟨(some 53), none, (.mov (.t 13))⟩,
          ⟨(some 54), none, (.callF 99 [(.t 47), (.t 52), (.t 53)])⟩,
          ⟨(some 14), none, (.mov (.t 54))⟩])
        (.seq (.seq (.ops [⟨(some 55), none, (.mov (.t 6))⟩,
          ⟨(some 56), none, (.bin .eql (.t 55) (.k (.int .i64 0)))⟩,
          ⟨(some 57), none, (.mov (.t 56))⟩,
          ⟨(some 58), (some (57, true)), (.mov (.t 14))⟩,
          ⟨(some 59), (some (57, true)), (.len false (.t 58))⟩,
          ⟨(some 60), (some (57, true)), (.bin .gtr (.t 59) (.k (.int .i64 0)))⟩,
          ⟨(some 61), none, (.pick (.t 57) (.t 60) (.k (.bool false)))⟩])
        (.cnd (.t 61)
          (.ops [⟨(some 62), none, (.mov (.t 12))⟩,
            ⟨(some 63), none, (.mov (.t 14))⟩,
            ⟨(some 64), none, (.ixA 1 (.t 63) (.k (.int .i64 0)))⟩,
            ⟨(some 65), none, (.ld 1 false (.t 64))⟩,
            ⟨(some 4), none, (.mov (.t 62))⟩,
            ⟨(some 5), none, (.mov (.t 65))⟩])
          .skip))
        (.seq (.ops [⟨(some 66), none, (.mov (.t 6))⟩,
          ⟨(some 67), none, (.mov (.t 14))⟩,
          ⟨(some 68), none, (.len false (.t 67))⟩,
          ⟨(some 69), none, (.bin .add (.t 66) (.t 68))⟩,
          ⟨(some 6), none, (.mov (.t 69))⟩])
        (.ops [⟨(some 70), none, (.mov (.t 11))⟩,
          ⟨(some 71), none, (.flA 1 (.t 2))⟩,
          ⟨(some 72), none, (.ld 1 false (.t 71))⟩,
          ⟨(some 73), none, (.mov (.t 12))⟩,
          ⟨(some 74), none, (.ixA 1 (.t 72) (.t 73))⟩,
          ⟨(some 75), none, (.ld 1 false (.t 74))⟩,
          ⟨(some 76), none, (.mov (.t 13))⟩,
          ⟨(some 77), none, (.callF 100 [(.t 70), (.t 75), (.t 76), (.k (.int .i64 1))])⟩]))))))
      (.ops [⟨(some 78), none, (.bin .add (.t 42) (.k (.int .i64 1)))⟩,
        ⟨(some 42), none, (.mov (.t 78))⟩])))))))
  (.seq (.ops [⟨(some 79), none, (.mov (.t 4))⟩,
    ⟨(some 80), none, (.mov (.t 5))⟩,
    ⟨(some 81), none, (.mov (.t 6))⟩,
    ⟨(some 4), none, (.mov (.t 79))⟩,
    ⟨(some 5), none, (.mov (.t 80))⟩,
    ⟨(some 6), none, (.mov (.t 81))⟩,
    ⟨(some 7), none, (.mov (.k (.int .i64 0)))⟩])
  .ret))))))))⟩
def hint49 (P : Program) : Hint := {}
theorem combR_c (s : Sea) (h1 : s.ss.length ≤ 4) (h2 : ∀ x ∈ s.ss, 1 ≤ x ∧ x ≤ 6) : Fn0 Try.prog 57 [seA s] (fun v => v = .int .i64 (combF s.ss)) := by
  refine RawC.walk (H := hint57 Try.prog) ir57 Try.func57 rfl rfl rfl ?_
  unfold ir57
  repeat' (first
    | with_reducible (first | refine Rd.p ?_ | refine w_alt ?_ ?_ | refine zE ?_ | refine zE0 ?_)
    | with_reducible (first | refine zI fun y hy => ?_ | refine zL ?_ | refine zS ?_ | refine zA fun _ => ?_ | refine zV ?_ | refine zC ?_ | refine zG ?_ | refine zU ?_ | refine zG0 ?_ | refine zU0 ?_ | refine zF ?_)
    | with_reducible (first | refine zX ?_ | refine zD fun _ => ?_ | refine zD0 ?_ | refine zN ?_ | refine zF0 ?_ | refine zX0 ?_ | refine z1 ?_ | refine z2 ?_ | refine z3 ?_ | refine z4 ?_ | refine z5 ?_ | refine z6 ?_ | refine z7 ?_ | refine z8 ?_ | refine y1 ?_ | refine y2 ?_ | refine y3 ?_ | refine y4 ?_ | refine y5 ?_ | refine y6 ?_ | refine y7 ?_ | refine y8 ?_ | refine Rt.p (fun _ => ?_) fun _ => ?_)
    | ((with_reducible apply w_ixM); (focus exact rfl); (focus exact rfl); case' hk => intro y hy) | ((with_reducible (first | apply w_val | apply q_ends)); (focus exact rfl)))
  refine w_loopK [1] [1] (fun x : List Int × List Int => s.ss = x.1 ++ x.2) (fun x => x.2.length) (fun x => [(4, .int .i64 x.1.length), (3, .int .i64 (combF x.1))]) (fun _ => []) ([], s.ss) rfl ⟨rfl, rfl, trivial⟩ trivial ?_
  rintro ⟨pre, post⟩ hp e σ
  dsimp only at hp ⊢
  have hlen := congrArg List.length hp
  rw [List.length_append] at hlen
  cases post with
  | nil =>
    rw [List.append_nil] at hp
    simp only [List.length_nil] at hlen
    repeat' (first
      | with_reducible (first | refine Rd.p ?_ | refine w_alt ?_ ?_ | refine zE ?_ | refine zE0 ?_)
      | with_reducible (first | refine zI fun y hy => ?_ | refine zL ?_ | refine zS ?_ | refine zA fun _ => ?_ | refine zV ?_ | refine zC ?_ | refine zG ?_ | refine zU ?_ | refine zG0 ?_ | refine zU0 ?_ | refine zF ?_)
      | with_reducible (first | refine zX ?_ | refine zD fun _ => ?_ | refine zD0 ?_ | refine zN ?_ | refine zF0 ?_ | refine zX0 ?_ | refine z1 ?_ | refine z2 ?_ | refine z3 ?_ | refine z4 ?_ | refine z5 ?_ | refine z6 ?_ | refine z7 ?_ | refine z8 ?_ | refine y1 ?_ | refine y2 ?_ | refine y3 ?_ | refine y4 ?_ | refine y5 ?_ | refine y6 ?_ | refine y7 ?_ | refine y8 ?_ | refine Rt.p (fun _ => ?_) fun _ => ?_)
      | ((with_reducible apply w_ixM); (focus exact rfl); (focus exact rfl); case' hk => intro y hy) | ((with_reducible (first | apply w_val | apply q_ends)); (focus exact rfl)))
    rw [hp]; rfl
  | cons a post =>
    simp only [List.length_cons] at hlen
    have hb := combF_bd (pre ++ [a]).length (pre ++ [a]) rfl fun x hx => h2 x (by rw [hp]; simp at hx ⊢; rcases hx with h | h <;> simp [h])
    rw [combF_snoc] at hb
    have h6 : (6 : Int) ^ (pre ++ [a]).length ≤ 1296 := by
      have h7 : (pre ++ [a]).length ≤ 4 := by simp; omega
      rcases (by omega : (pre ++ [a]).length = 0 ∨ (pre ++ [a]).length = 1 ∨ (pre ++ [a]).length = 2 ∨ (pre ++ [a]).length = 3 ∨ (pre ++ [a]).length = 4) with h | h | h | h | h
      all_goals (rw [h]; decide)
    repeat' (first
      | with_reducible (first | refine Rd.p ?_ | refine w_alt ?_ ?_ | refine zE ?_ | refine zE0 ?_)
      | (refine w_ixP (pre := pre) (y := a) (post := post) hp rfl rfl ?_)
      | with_reducible (first | refine zI fun y hy => ?_ | refine zL ?_ | refine zS ?_ | refine zA fun _ => ?_ | refine zV ?_ | refine zC ?_ | refine zG ?_ | refine zU ?_ | refine zG0 ?_ | refine zU0 ?_ | refine zF ?_)
      | with_reducible (first | refine zX ?_ | refine zD fun _ => ?_ | refine zD0 ?_ | refine zN ?_ | refine zF0 ?_ | refine zX0 ?_ | refine z1 ?_ | refine z2 ?_ | refine z3 ?_ | refine z4 ?_ | refine z5 ?_ | refine z6 ?_ | refine z7 ?_ | refine z8 ?_ | refine y1 ?_ | refine y2 ?_ | refine y3 ?_ | refine y4 ?_ | refine y5 ?_ | refine y6 ?_ | refine y7 ?_ | refine y8 ?_ | refine Rt.p (fun _ => ?_) fun _ => ?_)
      | ((with_reducible apply w_ixM); (focus exact rfl); (focus exact rfl); case' hk => intro y hy) | ((with_reducible (first | apply w_val | apply q_ends)); (focus exact rfl)))
    refine q_loop (pre ++ [a], post) ?_ ?_ (slots_cons (by show AV.int .i64 _ = AV.int .i64 _; refine int_eq ?_; simp) (slots_cons (by show AV.int .i64 _ = AV.int .i64 _; rw [combF_snoc]) slots_nil)) trivial (by repeat' (first | exact kept_nil | apply kept_cons | rfl)) (by repeat' (first | exact kept_nil | apply kept_cons | rfl))
    · dsimp only; rw [hp]; simp
    · simp
theorem nowV_opt {a : AV} {l : List Int} (h : NowV a l) : a = optI l := by
  rcases h with ⟨rfl, rfl⟩ | ⟨rfl, hne⟩
  · rfl
  · cases l with
    | nil => exact absurd rfl hne
    | cons x r => rfl
def leastI : List Int → Int
  | [] => -1
  | a :: r => r.foldl min a
theorem foldl_min : ∀ (l : List Int) (a : Int), (l.foldl min a = a ∨ l.foldl min a ∈ l) ∧ l.foldl min a ≤ a ∧ ∀ x ∈ l, l.foldl min a ≤ x
  | [], a => ⟨.inl rfl, Int.le_refl _, fun x h => by simp at h⟩
  | b :: r, a => by
    obtain ⟨h1, h2, h3⟩ := foldl_min r (min a b)
    simp only [List.foldl_cons]
    refine ⟨?_, by omega, fun x hx => ?_⟩
    · rcases h1 with h1 | h1
      · rw [h1]
        rcases (by omega : min a b = a ∨ min a b = b) with h | h
        · exact .inl h
        · exact .inr (by rw [h]; simp)
      · exact .inr (by simp [h1])
    · rcases List.mem_cons.1 hx with rfl | hx
      · omega
      · exact h3 x hx
theorem leastI_srt {xs r : List Int} {y : Int} (h : SrtP xs (y :: r)) : leastI xs = y := by
  obtain ⟨hp, hs⟩ := h
  have hm : ∀ w, w ∈ y :: r ↔ w ∈ xs := fun w => hp.mem_iff
  cases xs with
  | nil => have := (hm y).1 (by simp); simp at this
  | cons a t =>
    obtain ⟨h1, h2, h3⟩ := foldl_min t a
    have hle : ∀ x ∈ a :: t, leastI (a :: t) ≤ x := by
      intro x hx
      rcases List.mem_cons.1 hx with rfl | hx
      · exact h2
      · exact h3 x hx
    have hmem : leastI (a :: t) ∈ a :: t := by
      rcases h1 with h1 | h1
      · show t.foldl min a ∈ _; rw [h1]; simp
      · exact List.mem_cons_of_mem _ h1
    have h5 := hle y ((hm y).1 (by simp))
    have h6 := (hm _).2 hmem
    rw [List.pairwise_cons] at hs
    rcases List.mem_cons.1 h6 with h6 | h6
    · exact h6
    · have := hs.1 _ h6; omega
/-- The guests of a gathering who met its combination before. -/
def repL (s : Sea) (p : List Int) (n : Int) : List Int := (gAt s.gs p.length).filter fun g => decide (0 < metN s.gs p (g, n))
theorem repL_len (s : Sea) (p : List Int) (n : Int) : ((repL s p n).length : Int) = againN s.gs p n := rfl
def repF (s : Sea) : List Int → List Int → Int × Int × Int → Int × Int × Int
  | _, [], st => st
  | p, n :: r, st => repF s (p ++ [n]) r (if st.2.2 = 0 ∧ repL s p n ≠ [] then (p.length, leastI (repL s p n), (repL s p n).length) else (st.1, st.2.1, st.2.2 + (repL s p n).length))
def repE (s : Sea) (p : List Int) : Int := if seaE s = 0 then (if s.gs.length < p.length then 8 else if (p.all fun n => inB n 0 (combF s.ss - 1)) = true then 0 else 7) else seaE s
def repV (s : Sea) (p : List Int) : Int × Int × Int := if repE s p = 0 then repF s [] p (-1, -1, 0) else (0, 0, 0)
theorem metN_le {s : Sea} (ok : OkS s) {p : List Int} (h : p.length ≤ s.gs.length) (k : Int × Int) : -1000000 ≤ metN s.gs p k ∧ metN s.gs p k ≤ 1000000 := by
  have := metN_bd s.gs p k ok.g12
  have := ok.g9
  omega
/-- How many repeats there are, at most. -/
theorem repL_bd {s : Sea} (ok : OkS s) {p : List Int} (h : p.length < s.gs.length) (n : Int) : (repL s p n).length ≤ 12 := by
  have h1 : (repL s p n).length ≤ (gAt s.gs p.length).length := List.length_filter_le _ _
  have h2 := ok.g12 _ (gAt_mem h)
  omega
def repS (s : Sea) (p : List Int) (n : Int) (st : Int × Int × Int) : Int × Int × Int := if st.2.2 = 0 ∧ repL s p n ≠ [] then (p.length, leastI (repL s p n), (repL s p n).length) else (st.1, st.2.1, st.2.2 + (repL s p n).length)
theorem repF_cons (s : Sea) (p : List Int) (n : Int) (r : List Int) (st : Int × Int × Int) : repF s p (n :: r) st = repF s (p ++ [n]) r (repS s p n st) := rfl
/-- A list of numbers, nil or not. -/
def NowE (a : AV) (l : List Int) : Prop := (a = .nsl ∧ l = []) ∨ a = .slc 1 (iR l) .non
theorem Repeats_s (s : Sea) (p : List Int) (a : AV) (hN : NowE a p) (h1 : s.ss.length < 1000) (h2 : s.gs.length < 1000) (h3 : ∀ l ∈ s.gs, l.length < 1000) (hp : p.length < 1000) :
    Fn0 Try.prog 49 [seA s, a] (fun v => v = .tup [.int .i64 (repV s p).1, .int .i64 (repV s p).2.1, .int .i64 (repV s p).2.2, .int .i64 (repE s p)]) := by
  have hck := checkS_s s h1 h2 h3
  obtain ⟨v, hv⟩ : ∃ v, v = repV s p := ⟨_, rfl⟩
  obtain ⟨E, hE⟩ : ∃ E, E = repE s p := ⟨_, rfl⟩
  rw [← hv, ← hE]
  rw [repV, ← hE] at hv
  rw [repE] at hE
  by_cases he : seaE s = 0
  case neg =>
    rw [if_neg he] at hE
    rw [if_neg (by rw [hE]; exact he)] at hv
    subst hv
    rw [hE]
    rcases hN with ⟨rfl, hp0⟩ | rfl
    all_goals
      refine RawC.walk (H := hint49 Try.prog) ir49 Try.func49 rfl rfl rfl ?_
      unfold ir49
      repeat' (first
        | with_reducible (first | refine Rd.p ?_ | refine w_alt ?_ ?_ | refine zE ?_ | refine zE0 ?_)
        | with_reducible (first | refine zI fun y hy => ?_ | refine zL ?_ | refine zS ?_ | refine zA fun _ => ?_ | refine zV ?_ | refine zC ?_ | refine zG ?_ | refine zU ?_ | refine zG0 ?_ | refine zU0 ?_ | refine zF ?_)
        | ((with_reducible refine acall_id ?_); refine ACall.val hck rfl rfl ?_)
        | with_reducible (first | refine zX ?_ | refine zD fun _ => ?_ | refine zD0 ?_ | refine zN ?_ | refine zF0 ?_ | refine zX0 ?_ | refine z1 ?_ | refine z2 ?_ | refine z3 ?_ | refine z4 ?_ | refine z5 ?_ | refine z6 ?_ | refine z7 ?_ | refine z8 ?_ | refine y1 ?_ | refine y2 ?_ | refine y3 ?_ | refine y4 ?_ | refine y5 ?_ | refine y6 ?_ | refine y7 ?_ | refine y8 ?_ | refine Rt.p (fun _ => ?_) fun _ => ?_)
        | ((with_reducible apply w_ixM); (focus exact rfl); (focus exact rfl); case' hk => intro y hy) | ((with_reducible (first | apply w_val | apply q_ends)); (focus exact rfl)))
      rfl
  rw [if_pos he] at hE
  have ok := okS_of he
  have h9 := ok.g9
  have hcb := combF_bd s.ss.length s.ss rfl ok.s6
  have hcb2 : combF s.ss ≤ 1296 := by
    have h4 := ok.s4
    have : (6 : Int) ^ s.ss.length ≤ 1296 := by
      rcases (by omega : s.ss.length = 0 ∨ s.ss.length = 1 ∨ s.ss.length = 2 ∨ s.ss.length = 3 ∨ s.ss.length = 4) with h | h | h | h | h
      all_goals (rw [h]; decide)
    omega
  rw [he] at hck
  by_cases hpl : s.gs.length < p.length
  · rw [if_pos hpl] at hE
    rw [if_neg (by rw [hE]; decide)] at hv
    subst hv
    rw [hE]
    rcases hN with ⟨rfl, hp0⟩ | rfl
    · rw [hp0] at hpl; simp at hpl
    · refine RawC.walk (H := hint49 Try.prog) ir49 Try.func49 rfl rfl rfl ?_
      unfold ir49
      repeat' (first
        | with_reducible (first | refine Rd.p ?_ | refine w_alt ?_ ?_ | refine zE ?_ | refine zE0 ?_)
        | with_reducible (first | refine zI fun y hy => ?_ | refine zL ?_ | refine zS ?_ | refine zA fun _ => ?_ | refine zV ?_ | refine zC ?_ | refine zG ?_ | refine zU ?_ | refine zG0 ?_ | refine zU0 ?_ | refine zF ?_)
        | ((with_reducible refine acall_id ?_); refine ACall.val hck rfl rfl ?_)
        | with_reducible (first | refine zX ?_ | refine zD fun _ => ?_ | refine zD0 ?_ | refine zN ?_ | refine zF0 ?_ | refine zX0 ?_ | refine z1 ?_ | refine z2 ?_ | refine z3 ?_ | refine z4 ?_ | refine z5 ?_ | refine z6 ?_ | refine z7 ?_ | refine z8 ?_ | refine y1 ?_ | refine y2 ?_ | refine y3 ?_ | refine y4 ?_ | refine y5 ?_ | refine y6 ?_ | refine y7 ?_ | refine y8 ?_ | refine Rt.p (fun _ => ?_) fun _ => ?_)
        | ((with_reducible apply w_ixM); (focus exact rfl); (focus exact rfl); case' hk => intro y hy) | ((with_reducible (first | apply w_val | apply q_ends)); (focus exact rfl)))
      · rfl
  rw [if_neg hpl] at hE
  rcases hN with ⟨rfl, hp0⟩ | rfl
  all_goals
    (try have h0 : p.length = 0 := by rw [hp0]; rfl)
    refine RawC.walk (H := hint49 Try.prog) ir49 Try.func49 rfl rfl rfl ?_
    unfold ir49
    repeat' (first
      | with_reducible (first | refine Rd.p ?_ | refine w_alt ?_ ?_ | refine zE ?_ | refine zE0 ?_)
      | with_reducible (first | refine zI fun y hy => ?_ | refine zL ?_ | refine zS ?_ | refine zA fun _ => ?_ | refine zV ?_ | refine zC ?_ | refine zG ?_ | refine zU ?_ | refine zG0 ?_ | refine zU0 ?_ | refine zF ?_)
      | ((with_reducible refine acall_id ?_); refine ACall.val hck rfl rfl ?_)
      | with_reducible (first | refine zX ?_ | refine zD fun _ => ?_ | refine zD0 ?_ | refine zN ?_ | refine zF0 ?_ | refine zX0 ?_ | refine z1 ?_ | refine z2 ?_ | refine z3 ?_ | refine z4 ?_ | refine z5 ?_ | refine z6 ?_ | refine z7 ?_ | refine z8 ?_ | refine y1 ?_ | refine y2 ?_ | refine y3 ?_ | refine y4 ?_ | refine y5 ?_ | refine y6 ?_ | refine y7 ?_ | refine y8 ?_ | refine Rt.p (fun _ => ?_) fun _ => ?_)
      | ((with_reducible apply w_ixM); (focus exact rfl); (focus exact rfl); case' hk => intro y hy) | ((with_reducible (first | apply w_val | apply q_ends)); (focus exact rfl)))
    refine w_loopK [1, 2, 6, 26, 27] [2] (fun x : List Int × List Int => p = x.1 ++ x.2 ∧ (x.1.all fun n => inB n 0 (combF s.ss - 1)) = true) (fun x => x.2.length) (fun x => [(28, .int .i64 x.1.length)]) (fun _ => []) ([], p) ⟨rfl, rfl⟩ ⟨rfl, trivial⟩ trivial ?_
    rintro ⟨pre, post⟩ ⟨hpp, hal⟩ e σ
    dsimp only at hpp hal ⊢
    have hlen := congrArg List.length hpp
    rw [List.length_append] at hlen
    cases post with
    | cons x post =>
      simp only [List.length_cons] at hlen
      first
        | (exfalso; omega)
        | (repeat' (first
             | with_reducible (first | refine Rd.p ?_ | refine w_alt ?_ ?_ | refine zE ?_ | refine zE0 ?_)
             | (refine w_ixP hpp rfl rfl ?_)
             | with_reducible (first | refine zI fun y hy => ?_ | refine zL ?_ | refine zS ?_ | refine zA fun _ => ?_ | refine zV ?_ | refine zC ?_ | refine zG ?_ | refine zU ?_ | refine zG0 ?_ | refine zU0 ?_ | refine zF ?_)
             | ((with_reducible refine acall_id ?_); refine ACall.val (comb_s s ok.s4 ok.s6) rfl rfl ?_)
             | ((with_reducible refine acall_id ?_); refine ACall.val (within_s _ _ _) rfl rfl ?_)
             | with_reducible (first | refine zX ?_ | refine zD fun _ => ?_ | refine zD0 ?_ | refine zN ?_ | refine zF0 ?_ | refine zX0 ?_ | refine z1 ?_ | refine z2 ?_ | refine z3 ?_ | refine z4 ?_ | refine z5 ?_ | refine z6 ?_ | refine z7 ?_ | refine z8 ?_ | refine y1 ?_ | refine y2 ?_ | refine y3 ?_ | refine y4 ?_ | refine y5 ?_ | refine y6 ?_ | refine y7 ?_ | refine y8 ?_ | refine Rt.p (fun _ => ?_) fun _ => ?_)
             | ((with_reducible apply w_ixM); (focus exact rfl); (focus exact rfl); case' hk => intro y hy) | ((with_reducible (first | apply w_val | apply q_ends)); (focus exact rfl)))
           · rename_i hi
             have : (p.all fun n => inB n 0 (combF s.ss - 1)) = false := by rw [hpp]; simp [hi]
             rw [if_neg (by simp [this])] at hE
             rw [if_neg (by rw [hE]; decide)] at hv
             subst hv
             rw [hE]
             rfl
           · rename_i hi
             refine zQ (pre ++ [x], post) ?_ ?_
             · exact ⟨by rw [hpp]; simp, by rw [List.all_append, hal]; simp [hi]⟩
             · simp)
    | nil =>
      rw [List.append_nil] at hpp
      subst hpp
      simp only [List.length_nil] at hlen
      rw [if_pos hal] at hE
      rw [if_pos hE] at hv
      rw [hE, hv]
      clear hv hE v E
      repeat' (first
        | with_reducible (first | refine Rd.p ?_ | refine w_alt ?_ ?_ | refine zE ?_ | refine zE0 ?_)
        | with_reducible (first | refine zI fun y hy => ?_ | refine zL ?_ | refine zS ?_ | refine zA fun _ => ?_ | refine zV ?_ | refine zC ?_ | refine zG ?_ | refine zU ?_ | refine zG0 ?_ | refine zU0 ?_ | refine zF ?_)
        | with_reducible (first | refine zX ?_ | refine zD fun _ => ?_ | refine zD0 ?_ | refine zN ?_ | refine zF0 ?_ | refine zX0 ?_ | refine z1 ?_ | refine z2 ?_ | refine z3 ?_ | refine z4 ?_ | refine z5 ?_ | refine z6 ?_ | refine z7 ?_ | refine z8 ?_ | refine y1 ?_ | refine y2 ?_ | refine y3 ?_ | refine y4 ?_ | refine y5 ?_ | refine y6 ?_ | refine y7 ?_ | refine y8 ?_ | refine Rt.p (fun _ => ?_) fun _ => ?_)
        | ((with_reducible apply w_ixM); (focus exact rfl); (focus exact rfl); case' hk => intro y hy) | ((with_reducible (first | apply w_val | apply q_ends)); (focus exact rfl)))
      rename_i g39
      refine w_loopK [1, 2, 11, 40, 41] [2] (fun x : List Int × List Int × (Int × Int × Int) × List ((Int × Int) × Int) => p = x.1 ++ x.2.1 ∧ repF s [] p (-1, -1, 0) = repF s x.1 x.2.1 x.2.2.1 ∧ (∀ q, mget x.2.2.2 q = metN s.gs x.1 q) ∧ 0 ≤ x.2.2.1.2.2 ∧ x.2.2.1.2.2 ≤ 12 * x.1.length) (fun x => x.2.1.length) (fun x => [(42, .int .i64 x.1.length), (4, .int .i64 x.2.2.1.1), (5, .int .i64 x.2.2.1.2.1), (6, .int .i64 x.2.2.1.2.2)]) (fun x => [(39, (g39, .row [.mpv (kvK x.2.2.2) (kvV x.2.2.2)]))]) ([], p, (-1, -1, 0), []) ⟨rfl, rfl, fun q => (metN_nil _ _).symm, by show (0 : Int) ≤ 0; omega, by show (0 : Int) ≤ 12 * ((0 : Nat) : Int); omega⟩ ⟨rfl, rfl, rfl, rfl, trivial⟩ ⟨rfl, trivial⟩ ?_
      rintro ⟨pre, post, ⟨ga, gu, many⟩, kv⟩ ⟨hpp, hf, hkv, hm0, hm1⟩ e σ
      dsimp only at hpp hf hkv hm0 hm1 ⊢
      have hlen := congrArg List.length hpp
      rw [List.length_append] at hlen
      cases post with
      | nil =>
        simp only [List.length_nil] at hlen
        repeat' (first
          | with_reducible (first | refine Rd.p ?_ | refine w_alt ?_ ?_ | refine zE ?_ | refine zE0 ?_)
          | with_reducible (first | refine zI fun y hy => ?_ | refine zL ?_ | refine zS ?_ | refine zA fun _ => ?_ | refine zV ?_ | refine zC ?_ | refine zG ?_ | refine zU ?_ | refine zG0 ?_ | refine zU0 ?_ | refine zF ?_)
          | with_reducible (first | refine zX ?_ | refine zD fun _ => ?_ | refine zD0 ?_ | refine zN ?_ | refine zF0 ?_ | refine zX0 ?_ | refine z1 ?_ | refine z2 ?_ | refine z3 ?_ | refine z4 ?_ | refine z5 ?_ | refine z6 ?_ | refine z7 ?_ | refine z8 ?_ | refine y1 ?_ | refine y2 ?_ | refine y3 ?_ | refine y4 ?_ | refine y5 ?_ | refine y6 ?_ | refine y7 ?_ | refine y8 ?_ | refine Rt.p (fun _ => ?_) fun _ => ?_)
          | ((with_reducible apply w_ixM); (focus exact rfl); (focus exact rfl); case' hk => intro y hy) | ((with_reducible (first | apply w_val | apply q_ends)); (focus exact rfl)))
        rw [hf]; rfl
      | cons x post =>
        simp only [List.length_cons] at hlen
        first
          | (exfalso; omega)
          | (have hgl : (gAt s.gs pre.length).length ≤ 12 := ok.g12 _ (gAt_mem (by omega))
             rw [repF_cons] at hf
             have hsn := fun q => metN_snoc s.gs pre x q (by omega)
             have hlx : (pre ++ [x]).length = pre.length + 1 := by simp
             repeat' (first
               | with_reducible (first | refine Rd.p ?_ | refine w_alt ?_ ?_ | refine zE ?_ | refine zE0 ?_)
               | (first | refine w_ixP hpp rfl rfl ?_ | refine w_ixLL (n := pre.length) rfl rfl (by omega) ?_)
               | with_reducible (first | refine zI fun y hy => ?_ | refine zL ?_ | refine zS ?_ | refine zA fun _ => ?_ | refine zV ?_ | refine zC ?_ | refine zG ?_ | refine zU ?_ | refine zG0 ?_ | refine zU0 ?_ | refine zF ?_)
               | ((with_reducible refine acall_id ?_); (refine again_call kv g39 (gAt s.gs pre.length) x hgl rfl rfl ?_; intro ys ag hNa hys; obtain rfl := nowV_opt hNa; have hyl : ys.length = (repL s pre x).length := by rw [hys.1.length_eq]; have := againL_len kv s.gs pre x hkv; rw [← repL_len] at this; omega))
               | with_reducible (first | refine zX ?_ | refine zD fun _ => ?_ | refine zD0 ?_ | refine zN ?_ | refine zF0 ?_ | refine zX0 ?_ | refine z1 ?_ | refine z2 ?_ | refine z3 ?_ | refine z4 ?_ | refine z5 ?_ | refine z6 ?_ | refine z7 ?_ | refine z8 ?_ | refine y1 ?_ | refine y2 ?_ | refine y3 ?_ | refine y4 ?_ | refine y5 ?_ | refine y6 ?_ | refine y7 ?_ | refine y8 ?_ | refine Rt.p (fun _ => ?_) fun _ => ?_)
               | ((with_reducible apply w_ixM); (focus exact rfl); (focus exact rfl); case' hk => intro y hy) | ((with_reducible (first | apply w_val | apply q_ends)); (focus exact rfl)))
             have hkk : ∀ k, -1000000 ≤ mget kv k ∧ mget kv k ≤ 1000000 := fun k => by rw [hkv]; exact metN_le ok (by omega) k
             have hrb := repL_bd ok (show pre.length < s.gs.length by omega) x
             have hce : repL s pre x = againL kv x (gAt s.gs pre.length) := by unfold repL againL; congr 1; funext g; rw [hkv]
             cases ys with
             | nil =>
               have hS : repS s pre x (ga, gu, many) = (ga, gu, many) := by
                 have h0 : repL s pre x = [] := List.length_eq_zero_iff.1 hyl.symm
                 rw [repS, if_neg (by rw [h0]; simp), h0]; simp
               rw [hS] at hf
               repeat' (first
                 | with_reducible (first | refine Rd.p ?_ | refine w_alt ?_ ?_ | refine zE ?_ | refine zE0 ?_)
                 | (first | refine w_ixLL (n := pre.length) rfl rfl (by omega) ?_)
                 | with_reducible (first | refine zI fun y hy => ?_ | refine zL ?_ | refine zS ?_ | refine zA fun _ => ?_ | refine zV ?_ | refine zC ?_ | refine zG ?_ | refine zU ?_ | refine zG0 ?_ | refine zU0 ?_ | refine zF ?_)
                 | ((with_reducible refine acall_id ?_); (refine add_call kv g39 (gAt s.gs pre.length) x 1 (by omega) (by omega) hkk rfl rfl ?_; intro kv1 hkv1))
                 | with_reducible (first | refine zX ?_ | refine zD fun _ => ?_ | refine zD0 ?_ | refine zN ?_ | refine zF0 ?_ | refine zX0 ?_ | refine z1 ?_ | refine z2 ?_ | refine z3 ?_ | refine z4 ?_ | refine z5 ?_ | refine z6 ?_ | refine z7 ?_ | refine z8 ?_ | refine y1 ?_ | refine y2 ?_ | refine y3 ?_ | refine y4 ?_ | refine y5 ?_ | refine y6 ?_ | refine y7 ?_ | refine y8 ?_ | refine Rt.p (fun _ => ?_) fun _ => ?_)
                 | ((with_reducible apply w_ixM); (focus exact rfl); (focus exact rfl); case' hk => intro y hy) | ((with_reducible (first | apply w_val | apply q_ends)); (focus exact rfl)))
               all_goals
                 refine q_loop (pre ++ [x], post, (ga, gu, many), kv1) ⟨by rw [hpp]; simp, hf, fun q => by rw [hkv1, hkv, hsn], hm0, by dsimp only; omega⟩ ?_ (slots_cons (by show AV.int .i64 _ = AV.int .i64 _; refine int_eq ?_; simp) (slots_cons rfl (slots_cons rfl (slots_cons (by show AV.int .i64 _ = AV.int .i64 _; refine int_eq ?_; simp) slots_nil)))) (by exact ⟨rfl, trivial⟩) (by repeat' (first | exact kept_nil | apply kept_cons | rfl)) (by repeat' (first | exact kept_nil | apply kept_cons | rfl))
                 · simp
             | cons y r =>
               have hne2 : repL s pre x ≠ [] := fun h => by rw [h] at hyl; simp at hyl
               have hll : leastI (repL s pre x) = y := by rw [hce]; exact leastI_srt hys
               have hyl2 : ((y :: r).length : Int) = ((repL s pre x).length : Int) := by rw [hyl]
               have hps : (0 : Int) < ((y :: r).length : Int) := by simp only [List.length_cons]; omega
               by_cases hmz : many = 0
               · have hS : repS s pre x (ga, gu, many) = ((pre.length : Int), y, many + (repL s pre x).length) := by
                   show (if _ then _ else _) = _; rw [if_pos ⟨hmz, hne2⟩, hll, hmz]; simp
                 rw [hS] at hf
                 repeat' (first
                   | with_reducible (first | refine Rd.p ?_ | refine w_alt ?_ ?_ | refine zE ?_ | refine zE0 ?_)
                   | (first | refine w_ixLL (n := pre.length) rfl rfl (by omega) ?_)
                   | with_reducible (first | refine zI fun y hy => ?_ | refine zL ?_ | refine zS ?_ | refine zA fun _ => ?_ | refine zV ?_ | refine zC ?_ | refine zG ?_ | refine zU ?_ | refine zG0 ?_ | refine zU0 ?_ | refine zF ?_)
                   | ((with_reducible refine acall_id ?_); (refine add_call kv g39 (gAt s.gs pre.length) x 1 (by omega) (by omega) hkk rfl rfl ?_; intro kv1 hkv1))
                   | with_reducible (first | refine zX ?_ | refine zD fun _ => ?_ | refine zD0 ?_ | refine zN ?_ | refine zF0 ?_ | refine zX0 ?_ | refine z1 ?_ | refine z2 ?_ | refine z3 ?_ | refine z4 ?_ | refine z5 ?_ | refine z6 ?_ | refine z7 ?_ | refine z8 ?_ | refine y1 ?_ | refine y2 ?_ | refine y3 ?_ | refine y4 ?_ | refine y5 ?_ | refine y6 ?_ | refine y7 ?_ | refine y8 ?_ | refine Rt.p (fun _ => ?_) fun _ => ?_)
                   | ((with_reducible apply w_ixM); (focus exact rfl); (focus exact rfl); case' hk => intro y hy) | ((with_reducible (first | apply w_val | apply q_ends)); (focus exact rfl)))
                 have hyy := Option.some.inj hy
                 subst hyy
                 refine q_loop (pre ++ [x], post, ((pre.length : Int), _, many + (repL s pre x).length), kv1) ⟨by rw [hpp]; simp, hf, fun q => by rw [hkv1, hkv, hsn], by dsimp only; omega, by dsimp only; omega⟩ ?_ (slots_cons (by show AV.int .i64 _ = AV.int .i64 _; refine int_eq ?_; simp) (slots_cons rfl (slots_cons rfl (slots_cons (by show AV.int .i64 _ = AV.int .i64 _; refine int_eq ?_; rw [← hyl2]) slots_nil)))) (by exact ⟨rfl, trivial⟩) (by repeat' (first | exact kept_nil | apply kept_cons | rfl)) (by repeat' (first | exact kept_nil | apply kept_cons | rfl))
                 · simp
               · have hS : repS s pre x (ga, gu, many) = (ga, gu, many + (repL s pre x).length) := by
                   show (if _ then _ else _) = _; rw [if_neg (fun h => hmz h.1)]
                 rw [hS] at hf
                 repeat' (first
                   | with_reducible (first | refine Rd.p ?_ | refine w_alt ?_ ?_ | refine zE ?_ | refine zE0 ?_)
                   | (first | refine w_ixLL (n := pre.length) rfl rfl (by omega) ?_)
                   | with_reducible (first | refine zI fun y hy => ?_ | refine zL ?_ | refine zS ?_ | refine zA fun _ => ?_ | refine zV ?_ | refine zC ?_ | refine zG ?_ | refine zU ?_ | refine zG0 ?_ | refine zU0 ?_ | refine zF ?_)
                   | ((with_reducible refine acall_id ?_); (refine add_call kv g39 (gAt s.gs pre.length) x 1 (by omega) (by omega) hkk rfl rfl ?_; intro kv1 hkv1))
                   | with_reducible (first | refine zX ?_ | refine zD fun _ => ?_ | refine zD0 ?_ | refine zN ?_ | refine zF0 ?_ | refine zX0 ?_ | refine z1 ?_ | refine z2 ?_ | refine z3 ?_ | refine z4 ?_ | refine z5 ?_ | refine z6 ?_ | refine z7 ?_ | refine z8 ?_ | refine y1 ?_ | refine y2 ?_ | refine y3 ?_ | refine y4 ?_ | refine y5 ?_ | refine y6 ?_ | refine y7 ?_ | refine y8 ?_ | refine Rt.p (fun _ => ?_) fun _ => ?_)
                   | ((with_reducible apply w_ixM); (focus exact rfl); (focus exact rfl); case' hk => intro y hy) | ((with_reducible (first | apply w_val | apply q_ends)); (focus exact rfl)))
                 refine q_loop (pre ++ [x], post, (ga, gu, many + (repL s pre x).length), kv1) ⟨by rw [hpp]; simp, hf, fun q => by rw [hkv1, hkv, hsn], by dsimp only; omega, by dsimp only; omega⟩ ?_ (slots_cons (by show AV.int .i64 _ = AV.int .i64 _; refine int_eq ?_; simp) (slots_cons rfl (slots_cons rfl (slots_cons (by show AV.int .i64 _ = AV.int .i64 _; refine int_eq ?_; rw [← hyl2]) slots_nil)))) (by exact ⟨rfl, trivial⟩) (by repeat' (first | exact kept_nil | apply kept_cons | rfl)) (by repeat' (first | exact kept_nil | apply kept_cons | rfl))
                 · simp)
end Go.Abs
