/- A part of the proofs of the laws of this seat: contracts of the functions that they reach, each proved of the program's form in Lean. No condition beyond those that each contract names. -/
import Derived.Test.YtmekfgjlcaonjaaC2
import Derived.Test.YtmekfgjlcaonjaaC1
import Derived.Test.YtmekfgjlcaonjaaB
set_option linter.unusedVariables false
set_option linter.unusedSimpArgs false
set_option maxRecDepth 20000
set_option maxHeartbeats 4000000
namespace Go.Abs
open Go.Proofs
/-- The error of a chain. -/
def chainE (c : Chn) : Int := if formE c = 0 then (if talesF c = [] then 12 else 0) else formE c
structure Okc (c : Chn) : Prop where
  n : c.ls.length ≤ 7
  m : 0 ≤ c.lo ∧ c.lo ≤ 100000 ∧ 0 ≤ c.hi ∧ c.hi ≤ 100000 ∧ c.lo ≤ c.hi
  own : 0 ≤ c.maker ∧ c.maker ≤ 19
  h : ∀ l ∈ c.ls, 0 ≤ l.lo ∧ l.lo ≤ 100000 ∧ 0 ≤ l.hi ∧ l.hi ≤ 100000
  to : ∀ l ∈ c.ls, 0 ≤ l.t ∧ l.t ≤ 19
theorem dayE_0 {a b : Int} (h : dayE a b = 0) : 0 ≤ a ∧ a ≤ 100000 ∧ 0 ≤ b ∧ b ≤ 100000 ∧ a ≤ b := by
  unfold dayE at h
  split at h
  · rename_i h1
    simp only [Bool.and_eq_true, inB_t] at h1
    split at h
    · cases h
    · omega
  · cases h
theorem lnksE_0 : ∀ {l : List Lnk}, lnksE l = 0 → ∀ x ∈ l, lnkE x = 0
  | [], _ => fun x hx => by cases hx
  | d :: r, h => by
    simp only [lnksE] at h
    split at h
    · rename_i h0
      intro x hx
      rcases List.mem_cons.1 hx with rfl | hx
      · exact h0
      · exact lnksE_0 h x hx
    · rename_i h0; exact absurd h h0
theorem lnkE_0 {l : Lnk} (h : lnkE l = 0) : (0 ≤ l.f ∧ l.f ≤ 19) ∧ (0 ≤ l.t ∧ l.t ≤ 19) ∧ l.f ≠ l.t ∧ 0 ≤ l.lo ∧ l.lo ≤ 100000 ∧ 0 ≤ l.hi ∧ l.hi ≤ 100000 ∧ l.lo ≤ l.hi := by
  unfold lnkE at h
  split at h
  · rename_i h1
    simp only [Bool.and_eq_true, inB_t] at h1
    split at h
    · cases h
    · rename_i h2
      have := dayE_0 h
      exact ⟨h1.1, h1.2, h2, this⟩
  · cases h
theorem formE_0 {c : Chn} (h : formE c = 0) : Okc c := by
  unfold formE at h
  split at h
  · rename_i h1
    split at h
    · rename_i h2
      split at h
      · cases h
      · rename_i h3
        have hl := lnksE_0 h
        have hd := dayE_0 h2
        exact ⟨by omega, hd, inB_t.1 h1, fun l hm => by have := lnkE_0 (hl l hm); omega, fun l hm => (lnkE_0 (hl l hm)).2.1⟩
    · rename_i h2; exact absurd h h2
  · cases h
/-- aloeswood/store.CheckChain -/
def ir26 : IFn :=
  ⟨12, [(2, some (1, false))], (.seq (.ops [⟨(some 1), none, (.box 4 (.t 0))⟩,
    ⟨(some 2), none, (.new [(.int .i64 0)])⟩])
  (.seq (.seq (.ops [⟨(some 4), none, (.ld 4 true (.t 1))⟩,
    ⟨(some 5), none, (.callF 82 [(.t 4)])⟩,
    ⟨(some 3), none, (.mov (.t 5))⟩])
  (.seq (.ops [⟨(some 6), none, (.mov (.t 3))⟩,
    ⟨(some 7), none, (.bin .neq (.t 6) (.k (.int .i64 0)))⟩])
  (.cnd (.t 7)
    (.seq (.ops [⟨(some 8), none, (.mov (.t 3))⟩,
      ⟨none, none, (.st 1 (.t 2) (.t 8))⟩])
    .ret)
    .skip)))
  (.seq (.seq (.ops [⟨(some 9), none, (.ld 4 true (.t 1))⟩,
    ⟨(some 10), none, (.callF 77 [(.t 9)])⟩])
  (.blk 0 (.rf (.t 10) [11] .skip
      (.blk 1 (.seq (.ops [⟨none, none, (.st 1 (.t 2) (.k (.int .i64 0)))⟩])
        .ret)))))
  (.seq (.ops [⟨none, none, (.st 1 (.t 2) (.k (.int .i64 12)))⟩])
  .ret))))⟩
def hint26 (P : Program) : Hint := {}
/-- aloeswood/store.Orders -/
def ir22 : IFn :=
  ⟨21, [(2, none), (3, none)], (.seq (.ops [⟨(some 1), none, (.box 4 (.t 0))⟩,
    ⟨(some 2), none, (.mov (.k .nsl))⟩,
    ⟨(some 3), none, (.mov (.k (.int .i64 0)))⟩])
  (.seq (.seq (.ops [⟨(some 7), none, (.ld 4 true (.t 1))⟩,
    ⟨(some 8), none, (.callF 26 [(.t 7)])⟩,
    ⟨(some 4), none, (.mov (.t 8))⟩])
  (.seq (.ops [⟨(some 9), none, (.mov (.t 4))⟩,
    ⟨(some 10), none, (.bin .neq (.t 9) (.k (.int .i64 0)))⟩])
  (.cnd (.t 10)
    (.seq (.ops [⟨(some 11), none, (.mov (.t 4))⟩,
      ⟨(some 2), none, (.mov (.k .nsl))⟩,
      ⟨(some 3), none, (.mov (.t 11))⟩])
    .ret)
    .skip)))
  (.seq (.ops [⟨(some 5), none, (.new [.nsl])⟩])
  (.seq (.seq (.ops [⟨(some 12), none, (.ld 4 true (.t 1))⟩,
    ⟨(some 13), none, (.callF 77 [(.t 12)])⟩])
  (.blk 0 (.rf (.t 13) [14] (.ops [⟨(some 6), none, (.new [.nsl, .nsl, .nsl])⟩,
        ⟨none, none, (.st 3 (.t 6) (.t 14))⟩])
      (.blk 1 (.ops [⟨(some 15), none, (.ld 1 false (.t 5))⟩,
          ⟨(some 16), none, (.flA 0 (.t 6))⟩,
          ⟨(some 17), none, (.ld 1 false (.t 16))⟩,
          ⟨(some 18), none, (.bsl 1 [[.nsl]] [(0, (.t 17))])⟩,
          ⟨(some 19), none, (.app 1 24 (.t 15) (.t 18) 19)⟩,
          ⟨none, none, (.st 1 (.t 5) (.t 19))⟩])))))
  (.seq (.ops [⟨(some 20), none, (.ld 1 false (.t 5))⟩,
    ⟨(some 2), none, (.mov (.t 20))⟩,
    ⟨(some 3), none, (.mov (.k (.int .i64 0)))⟩])
  .ret)))))⟩
def hint22 (P : Program) : Hint := {}
theorem check_s (c : Chn) (hl : c.ls.length < 1000) : Fn0 Try.prog 26 [cA c] (fun v => v = .int .i64 (chainE c)) := by
  by_cases hf : formE c = 0
  case neg =>
    refine RawC.walk (H := hint26 Try.prog) ir26 Try.func26 rfl rfl rfl ?_
    unfold ir26
    repeat' (first
      | with_reducible (first | refine Rd.p ?_ | refine w_alt ?_ ?_ | refine zE ?_ | refine zE0 ?_)
      | with_reducible (first | refine zI fun y hy => ?_ | refine zL ?_ | refine zS ?_ | refine zA fun _ => ?_ | refine zV ?_ | refine zC ?_ | refine zG ?_ | refine zU ?_ | refine zG0 ?_ | refine zU0 ?_ | refine zF ?_)
      | ((with_reducible refine acall_id ?_); refine ACall.val (formed_s c hl) rfl rfl ?_)
      | with_reducible (first | refine zX ?_ | refine zD fun _ => ?_ | refine zD0 ?_ | refine zN ?_ | refine zF0 ?_ | refine zX0 ?_ | refine z1 ?_ | refine z2 ?_ | refine z3 ?_ | refine z4 ?_ | refine z5 ?_ | refine z6 ?_ | refine z7 ?_ | refine z8 ?_ | refine y1 ?_ | refine y2 ?_ | refine y3 ?_ | refine y4 ?_ | refine y5 ?_ | refine y6 ?_ | refine y7 ?_ | refine y8 ?_ | refine Rt.p (fun _ => ?_) fun _ => ?_)
      | ((with_reducible apply w_ixM); (focus exact rfl); (focus exact rfl); case' hk => intro y hy) | ((with_reducible (first | apply w_val | apply q_ends)); (focus exact rfl)))
    rw [chainE, if_neg hf]; rfl
  have ok := formE_0 hf
  have hit := tales_it c ok.n ⟨ok.m.1, ok.m.2.1⟩ ok.h
  refine RawC.walk (H := hint26 Try.prog) ir26 Try.func26 rfl rfl rfl ?_
  unfold ir26
  repeat' (first
    | with_reducible (first | refine Rd.p ?_ | refine w_alt ?_ ?_ | refine zE ?_ | refine zE0 ?_)
    | with_reducible (first | refine zI fun y hy => ?_ | refine zL ?_ | refine zS ?_ | refine zA fun _ => ?_ | refine zV ?_ | refine zC ?_ | refine zG ?_ | refine zU ?_ | refine zG0 ?_ | refine zU0 ?_ | refine zF ?_)
    | ((with_reducible refine acall_id ?_); refine ACall.val (formed_s c hl) rfl rfl ?_)
    | ((with_reducible refine acall_id ?_); refine ACall.val (tales_c c) rfl rfl ?_)
    | with_reducible (first | refine zX ?_ | refine zD fun _ => ?_ | refine zD0 ?_ | refine zN ?_ | refine zF0 ?_ | refine zX0 ?_ | refine z1 ?_ | refine z2 ?_ | refine z3 ?_ | refine z4 ?_ | refine z5 ?_ | refine z6 ?_ | refine z7 ?_ | refine z8 ?_ | refine y1 ?_ | refine y2 ?_ | refine y3 ?_ | refine y4 ?_ | refine y5 ?_ | refine y6 ?_ | refine y7 ?_ | refine y8 ?_ | refine Rt.p (fun _ => ?_) fun _ => ?_)
    | ((with_reducible apply w_ixM); (focus exact rfl); (focus exact rfl); case' hk => intro y hy) | ((with_reducible (first | apply w_val | apply q_ends)); (focus exact rfl)))
  rename_i g1 g2
  refine w_rfM (encT c) (talesF c) rfl hit (fun _ => rfl) [2] (fun (rest : List (List Int × List Int)) (y : Unit) => rest = talesF c) (fun _ => []) () rfl trivial ?_ ?_
  · rintro x rest _ hr σ'
    have he : chainE c = 0 := by rw [chainE, if_pos hf, if_neg (by rw [← hr]; simp)]
    repeat' (first
      | with_reducible (first | refine Rd.p ?_ | refine w_alt ?_ ?_ | refine zE ?_ | refine zE0 ?_)
      | with_reducible (first | refine zI fun y hy => ?_ | refine zL ?_ | refine zS ?_ | refine zA fun _ => ?_ | refine zV ?_ | refine zC ?_ | refine zG ?_ | refine zU ?_ | refine zG0 ?_ | refine zU0 ?_ | refine zF ?_)
      | with_reducible (first | refine zX ?_ | refine zD fun _ => ?_ | refine zD0 ?_ | refine zN ?_ | refine zF0 ?_ | refine zX0 ?_ | refine z1 ?_ | refine z2 ?_ | refine z3 ?_ | refine z4 ?_ | refine z5 ?_ | refine z6 ?_ | refine z7 ?_ | refine z8 ?_ | refine y1 ?_ | refine y2 ?_ | refine y3 ?_ | refine y4 ?_ | refine y5 ?_ | refine y6 ?_ | refine y7 ?_ | refine y8 ?_ | refine Rt.p (fun _ => ?_) fun _ => ?_)
      | ((with_reducible apply w_ixM); (focus exact rfl); (focus exact rfl); case' hk => intro y hy) | ((with_reducible (first | apply w_val | apply q_ends)); (focus exact rfl)))
    rw [he]; rfl
  · rintro _ hr σ'
    have he : chainE c = 12 := by rw [chainE, if_pos hf, if_pos hr.symm]
    repeat' (first
      | with_reducible (first | refine Rd.p ?_ | refine w_alt ?_ ?_ | refine zE ?_ | refine zE0 ?_)
      | with_reducible (first | refine zI fun y hy => ?_ | refine zL ?_ | refine zS ?_ | refine zA fun _ => ?_ | refine zV ?_ | refine zC ?_ | refine zG ?_ | refine zU ?_ | refine zG0 ?_ | refine zU0 ?_ | refine zF ?_)
      | with_reducible (first | refine zX ?_ | refine zD fun _ => ?_ | refine zD0 ?_ | refine zN ?_ | refine zF0 ?_ | refine zX0 ?_ | refine z1 ?_ | refine z2 ?_ | refine z3 ?_ | refine z4 ?_ | refine z5 ?_ | refine z6 ?_ | refine z7 ?_ | refine z8 ?_ | refine y1 ?_ | refine y2 ?_ | refine y3 ?_ | refine y4 ?_ | refine y5 ?_ | refine y6 ?_ | refine y7 ?_ | refine y8 ?_ | refine Rt.p (fun _ => ?_) fun _ => ?_)
      | ((with_reducible apply w_ixM); (focus exact rfl); (focus exact rfl); case' hk => intro y hy) | ((with_reducible (first | apply w_val | apply q_ends)); (focus exact rfl)))
    rw [he]; rfl
/-- A list of lists that grows. -/
def tordV (g : Nat) : List (List Int) → AV
  | [] => .nsl
  | x :: r => .slc 1 (llR (x :: r)) (.own 19 g)
def tordS (g : Nat) : List (List Int) → List (Nat × (Nat × Res))
  | [] => []
  | _ :: _ => [(19, (g, .row []))]
def optL2 : List (List Int) → AV
  | [] => .nsl
  | x :: r => .slc 1 (llR (x :: r)) .non
theorem tcand_len (o : List Int) (last h : Int) : ∀ (s : Nat) (l : List Lnk), (tcand o last h s l).length ≤ l.length
  | _, [] => Nat.le_refl _
  | s, d :: r => by
    have := tcand_len o last h (s + 1) r
    simp only [tcand]
    split <;> simp only [List.length_cons] <;> omega
theorem flat_len {α β : Type} (f : α → List β) (n : Nat) : ∀ l : List α, (∀ x ∈ l, (f x).length ≤ n) → (l.flatMap f).length ≤ l.length * n
  | [], _ => by simp
  | a :: l, h => by
    have h1 := flat_len f n l fun x hx => h x (by simp [hx])
    have h2 := h a (by simp)
    rw [List.flatMap_cons, List.length_append, List.length_cons, Nat.add_mul]
    omega
theorem talesK_len (ls : List Lnk) : ∀ (k : Nat) (o le : List Int) (h : Int), (talesK ls k o le h).length ≤ ls.length ^ k
  | 0, _, _, _ => by simp [talesK]
  | k + 1, o, le, h => by
    have h1 := flat_len (fun x : Int × Int × Int => talesK ls k (o ++ [x.1]) (le ++ [x.2.1]) x.2.2) (ls.length ^ k) (tcand o (lastI le) h 0 ls) fun x _ => talesK_len ls k _ _ _
    have h2 := tcand_len o (lastI le) h 0 ls
    have h3 := Nat.mul_le_mul_right (ls.length ^ k) h2
    rw [Nat.pow_succ, Nat.mul_comm]
    simp only [talesK]
    omega
theorem talesF_len (c : Chn) (hn : c.ls.length ≤ 7) : (talesF c).length < 1000000 := by
  have h1 := talesK_len c.ls c.ls.length [] [c.lo] c.maker
  have h2 : c.ls.length ^ c.ls.length ≤ 7 ^ 7 := Nat.le_trans (Nat.pow_le_pow_left hn _) (Nat.pow_le_pow_right (by omega) hn)
  have h3 : (7 : Nat) ^ 7 = 823543 := by decide
  unfold talesF
  omega
/-- The orders; the error. -/
def ordsF (c : Chn) : List (List Int) := if chainE c = 0 then (talesF c).map (·.1) else []
theorem chainE_0 {c : Chn} (h : chainE c = 0) : formE c = 0 ∧ talesF c ≠ [] := by
  unfold chainE at h
  split at h
  · rename_i h1
    split at h
    · cases h
    · rename_i h2; exact ⟨h1, h2⟩
  · rename_i h1; exact absurd h h1
theorem orders_s (c : Chn) (hl : c.ls.length < 1000) : Fn0 Try.prog 22 [cA c] (fun v => v = .tup [optL2 (ordsF c), .int .i64 (chainE c)]) := by
  by_cases he : chainE c = 0
  case neg =>
    rw [ordsF, if_neg he]
    refine RawC.walk (H := hint22 Try.prog) ir22 Try.func22 rfl rfl rfl ?_
    unfold ir22
    repeat' (first
      | with_reducible (first | refine Rd.p ?_ | refine w_alt ?_ ?_ | refine zE ?_ | refine zE0 ?_)
      | with_reducible (first | refine zI fun y hy => ?_ | refine zL ?_ | refine zS ?_ | refine zA fun _ => ?_ | refine zV ?_ | refine zC ?_ | refine zG ?_ | refine zU ?_ | refine zG0 ?_ | refine zU0 ?_ | refine zF ?_)
      | ((with_reducible refine acall_id ?_); refine ACall.val (check_s c hl) rfl rfl ?_)
      | with_reducible (first | refine zX ?_ | refine zD fun _ => ?_ | refine zD0 ?_ | refine zN ?_ | refine zF0 ?_ | refine zX0 ?_ | refine z1 ?_ | refine z2 ?_ | refine z3 ?_ | refine z4 ?_ | refine z5 ?_ | refine z6 ?_ | refine z7 ?_ | refine z8 ?_ | refine y1 ?_ | refine y2 ?_ | refine y3 ?_ | refine y4 ?_ | refine y5 ?_ | refine y6 ?_ | refine y7 ?_ | refine y8 ?_ | refine Rt.p (fun _ => ?_) fun _ => ?_)
      | ((with_reducible apply w_ixM); (focus exact rfl); (focus exact rfl); case' hk => intro y hy) | ((with_reducible (first | apply w_val | apply q_ends)); (focus exact rfl)))
    rfl
  obtain ⟨hf, hne⟩ := chainE_0 he
  have ok := formE_0 hf
  have hit := tales_it c ok.n ⟨ok.m.1, ok.m.2.1⟩ ok.h
  have hen : ordsF c = (talesF c).map (·.1) := by rw [ordsF, if_pos he]
  rw [hen, he]
  have hbig := talesF_len c ok.n
  refine RawC.walk (H := hint22 Try.prog) ir22 Try.func22 rfl rfl rfl ?_
  unfold ir22
  repeat' (first
    | with_reducible (first | refine Rd.p ?_ | refine w_alt ?_ ?_ | refine zE ?_ | refine zE0 ?_)
    | with_reducible (first | refine zI fun y hy => ?_ | refine zL ?_ | refine zS ?_ | refine zA fun _ => ?_ | refine zV ?_ | refine zC ?_ | refine zG ?_ | refine zU ?_ | refine zG0 ?_ | refine zU0 ?_ | refine zF ?_)
    | ((with_reducible refine acall_id ?_); refine ACall.val (check_s c hl) rfl rfl ?_)
    | ((with_reducible refine acall_id ?_); refine ACall.val (tales_c c) rfl rfl ?_)
    | with_reducible (first | refine zX ?_ | refine zD fun _ => ?_ | refine zD0 ?_ | refine zN ?_ | refine zF0 ?_ | refine zX0 ?_ | refine z1 ?_ | refine z2 ?_ | refine z3 ?_ | refine z4 ?_ | refine z5 ?_ | refine z6 ?_ | refine z7 ?_ | refine z8 ?_ | refine y1 ?_ | refine y2 ?_ | refine y3 ?_ | refine y4 ?_ | refine y5 ?_ | refine y6 ?_ | refine y7 ?_ | refine y8 ?_ | refine Rt.p (fun _ => ?_) fun _ => ?_)
    | ((with_reducible apply w_ixM); (focus exact rfl); (focus exact rfl); case' hk => intro y hy) | ((with_reducible (first | apply w_val | apply q_ends)); (focus exact rfl)))
  rename_i g1 g5
  refine w_rfM (encT c) (talesF c) rfl hit (fun _ => rfl) [] (fun (rest : List (List Int × List Int)) (y : Nat × List (List Int)) => (talesF c).map (·.1) = y.2 ++ rest.map (·.1)) (fun y => [(5, (g5, .row [tordV y.1 y.2]))] ++ tordS y.1 y.2) (0, []) rfl (by exact ⟨rfl, trivial⟩) ?_ ?_
  · rintro x rest ⟨g, done⟩ hr σ'
    dsimp only at hr ⊢
    have hlen := congrArg List.length hr
    simp only [List.length_append, List.length_map, List.length_cons] at hlen
    cases done with
    | nil =>
      repeat' (first
        | with_reducible (first | refine Rd.p ?_ | refine w_alt ?_ ?_ | refine zE ?_ | refine zE0 ?_)
        | with_reducible (first | refine zI fun y hy => ?_ | refine zL ?_ | refine zS ?_ | refine zA fun _ => ?_ | refine zV ?_ | refine zC ?_ | refine zG ?_ | refine zU ?_ | refine zG0 ?_ | refine zU0 ?_ | refine zF ?_)
        | with_reducible (first | refine zX ?_ | refine zD fun _ => ?_ | refine zD0 ?_ | refine zN ?_ | refine zF0 ?_ | refine zX0 ?_ | refine z1 ?_ | refine z2 ?_ | refine z3 ?_ | refine z4 ?_ | refine z5 ?_ | refine z6 ?_ | refine z7 ?_ | refine z8 ?_ | refine y1 ?_ | refine y2 ?_ | refine y3 ?_ | refine y4 ?_ | refine y5 ?_ | refine y6 ?_ | refine y7 ?_ | refine y8 ?_ | refine Rt.p (fun _ => ?_) fun _ => ?_)
        | ((with_reducible apply w_ixM); (focus exact rfl); (focus exact rfl); case' hk => intro y hy) | ((with_reducible (first | apply w_val | apply q_ends)); (focus exact rfl)))
      refine q_rnd (_, [x.1]) ?_ (by exact ⟨rfl, rfl, trivial⟩) (by repeat' (first | exact kept_nil | apply kept_cons | rfl))
      rw [hr]; simp
    | cons d done =>
      simp only [List.length_cons] at hlen
      repeat' (first
        | with_reducible (first | refine Rd.p ?_ | refine w_alt ?_ ?_ | refine zE ?_ | refine zE0 ?_)
        | with_reducible (first | refine zI fun y hy => ?_ | refine zL ?_ | refine zS ?_ | refine zA fun _ => ?_ | refine zV ?_ | refine zC ?_ | refine zG ?_ | refine zU ?_ | refine zG0 ?_ | refine zU0 ?_ | refine zF ?_)
        | with_reducible (first | refine zX ?_ | refine zD fun _ => ?_ | refine zD0 ?_ | refine zN ?_ | refine zF0 ?_ | refine zX0 ?_ | refine z1 ?_ | refine z2 ?_ | refine z3 ?_ | refine z4 ?_ | refine z5 ?_ | refine z6 ?_ | refine z7 ?_ | refine z8 ?_ | refine y1 ?_ | refine y2 ?_ | refine y3 ?_ | refine y4 ?_ | refine y5 ?_ | refine y6 ?_ | refine y7 ?_ | refine y8 ?_ | refine Rt.p (fun _ => ?_) fun _ => ?_)
        | ((with_reducible apply w_ixM); (focus exact rfl); (focus exact rfl); case' hk => intro y hy) | ((with_reducible (first | apply w_val | apply q_ends)); (focus exact rfl)))
      refine q_rnd (_, d :: (done ++ [x.1])) ?_ (by exact ⟨rfl, rfl, trivial⟩) (by repeat' (first | exact kept_nil | apply kept_cons | rfl))
      rw [hr]; simp
  · rintro ⟨g, done⟩ hr σ'
    dsimp only at hr ⊢
    rw [List.map_nil, List.append_nil] at hr
    rw [hr]
    cases done with
    | nil => exact absurd (by simpa using hr) hne
    | cons d done =>
      repeat' (first
        | with_reducible (first | refine Rd.p ?_ | refine w_alt ?_ ?_ | refine zE ?_ | refine zE0 ?_)
        | with_reducible (first | refine zI fun y hy => ?_ | refine zL ?_ | refine zS ?_ | refine zA fun _ => ?_ | refine zV ?_ | refine zC ?_ | refine zG ?_ | refine zU ?_ | refine zG0 ?_ | refine zU0 ?_ | refine zF ?_)
        | with_reducible (first | refine zX ?_ | refine zD fun _ => ?_ | refine zD0 ?_ | refine zN ?_ | refine zF0 ?_ | refine zX0 ?_ | refine z1 ?_ | refine z2 ?_ | refine z3 ?_ | refine z4 ?_ | refine z5 ?_ | refine z6 ?_ | refine z7 ?_ | refine z8 ?_ | refine y1 ?_ | refine y2 ?_ | refine y3 ?_ | refine y4 ?_ | refine y5 ?_ | refine y6 ?_ | refine y7 ?_ | refine y8 ?_ | refine Rt.p (fun _ => ?_) fun _ => ?_)
        | ((with_reducible apply w_ixM); (focus exact rfl); (focus exact rfl); case' hk => intro y hy) | ((with_reducible (first | apply w_val | apply q_ends)); (focus exact rfl)))
      rfl
end Go.Abs
