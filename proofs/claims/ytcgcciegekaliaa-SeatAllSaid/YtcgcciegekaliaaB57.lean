/- A part of the proofs of the laws of this seat: contracts of the functions that they reach, each proved of the program's form in Lean. No condition beyond those that each contract names. -/
import Derived.Test.YtcgcciegekaliaaB0
import Derived.Test.YtcgcciegekaliaaB2
import Derived.Test.YtcgcciegekaliaaB5
import Derived.Test.YtcgcciegekaliaaB7
import Derived.Test.YtcgcciegekaliaaB8
import Derived.Test.YtcgcciegekaliaaB9
import Derived.Test.YtcgcciegekaliaaB10
import Derived.Test.YtcgcciegekaliaaB11
import Derived.Test.YtcgcciegekaliaaB12
import Derived.Test.YtcgcciegekaliaaB16
import Derived.Test.YtcgcciegekaliaaB19a
import Derived.Test.YtcgcciegekaliaaB20
import Derived.Test.YtcgcciegekaliaaB22
import Derived.Test.YtcgcciegekaliaaB25
set_option linter.unusedVariables false
set_option linter.unusedSimpArgs false
set_option maxRecDepth 20000
set_option maxHeartbeats 1600000
/-! ### SeatAll: the plain law, and the small functions -/
namespace Go.Abs
open Go.Proofs
/-- aloeswood/aloeswoodlaw08.free -/
def ir50 : IFn :=
  ⟨39, [(4, none)], (.seq (.ops [⟨(some 2), none, (.box 2 (.t 0))⟩,
    ⟨(some 4), none, (.mov (.k (.bool false)))⟩])
  (.seq (.seq (.ops [⟨(some 5), none, (.mov (.k (.int .i64 0)))⟩])
  (.blk 0 (.loop (.seq (.seq (.ops [⟨(some 6), none, (.mov (.t 5))⟩,
        ⟨(some 7), none, (.mov (.t 1))⟩,
        ⟨(some 8), none, (.len false (.t 7))⟩,
        ⟨(some 9), none, (.bin .lss (.t 6) (.t 8))⟩])
      (.cnd (.t 9)
        .skip
        (.exit 0)))
      (.seq (.blk 1 (.seq (.ops [⟨(some 12), none, (.mov (.t 1))⟩,
          ⟨(some 13), none, (.mov (.t 5))⟩,
          ⟨(some 14), none, (.ixA 1 (.t 12) (.t 13))⟩,
          ⟨(some 15), none, (.ld 1 false (.t 14))⟩,
          ⟨(some 16), none, (.bin .lss (.t 15) (.k (.int .i64 0)))⟩,
          ⟨(some 17), none, (.mov (.t 16))⟩,
          ⟨(some 18), (some (17, false)), (.mov (.t 1))⟩,
          ⟨(some 19), (some (17, false)), (.mov (.t 5))⟩,
          ⟨(some 20), (some (17, false)), (.ixA 1 (.t 18) (.t 19))⟩,
          ⟨(some 21), (some (17, false)), (.ld 1 false (.t 20))⟩,
          ⟨(some 22), (some (17, false)), (.flA 1 (.t 2))⟩,
          ⟨(some 23), (some (17, false)), (.ld 1 false (.t 22))⟩,
          ⟨(some 24), (some (17, false)), (.len false (.t 23))⟩,
          ⟨(some 25), (some (17, false)), (.bin .geq (.t 21) (.t 24))⟩,
          ⟨(some 26), none, (.pick (.t 17) (.k (.bool true)) (.t 25))⟩,
          ⟨(some 27), none, (.mov (.t 26))⟩,
          ⟨(some 28), (some (27, false)), (.flA 1 (.t 2))⟩,
          ⟨(some 29), (some (27, false)), (.ld 1 false (.t 28))⟩,
          ⟨(some 30), (some (27, false)), (.mov (.t 1))⟩,
          ⟨(some 31), (some (27, false)), (.mov (.t 5))⟩,
          ⟨(some 32), (some (27, false)), (.ixA 1 (.t 30) (.t 31))⟩,
          ⟨(some 33), (some (27, false)), (.ld 1 false (.t 32))⟩,
          ⟨(some 34), (some (27, false)), (.ixA 4 (.t 29) (.t 33))⟩,
          ⟨(some 35), (some (27, false)), (.flA 3 (.t 34))⟩,
          ⟨(some 36), (some (27, false)), (.ld 1 false (.t 35))⟩,
          ⟨(some 37), (some (27, false)), (.bin .eql (.t 36) (.k (.int .i64 0)))⟩,
          ⟨(some 38), none, (.pick (.t 27) (.k (.bool true)) (.t 37))⟩])
        (.cnd (.t 38)
          (.seq (.ops [⟨(some 4), none, (.mov (.k (.bool false)))⟩])
          .ret)
          .skip)))
      (.ops [⟨(some 10), none, (.mov (.t 5))⟩,
        ⟨(some 11), none, (.bin .add (.t 10) (.k (.int .i64 1)))⟩,
        ⟨(some 5), none, (.mov (.t 11))⟩]))))))
  (.seq (.ops [⟨(some 4), none, (.mov (.k (.bool true)))⟩])
  .ret)))⟩
def hint50 (P : Program) : Hint := {}

/-- aloeswood/aloeswoodlaw08.before -/
def ir51 : IFn :=
  ⟨36, [(4, none)], (.seq (.ops [⟨(some 4), none, (.mov (.k (.bool false)))⟩])
  (.seq (.seq (.ops [⟨(some 5), none, (.mov (.k (.int .i64 0)))⟩])
  (.blk 0 (.loop (.seq (.seq (.ops [⟨(some 6), none, (.mov (.t 5))⟩,
        ⟨(some 7), none, (.mov (.t 0))⟩,
        ⟨(some 8), none, (.len false (.t 7))⟩,
        ⟨(some 9), none, (.bin .lss (.t 6) (.t 8))⟩,
        ⟨(some 10), none, (.mov (.t 9))⟩,
        ⟨(some 11), (some (10, true)), (.mov (.t 5))⟩,
        ⟨(some 12), (some (10, true)), (.mov (.t 1))⟩,
        ⟨(some 13), (some (10, true)), (.len false (.t 12))⟩,
        ⟨(some 14), (some (10, true)), (.bin .lss (.t 11) (.t 13))⟩,
        ⟨(some 15), none, (.pick (.t 10) (.t 14) (.k (.bool false)))⟩])
      (.cnd (.t 15)
        .skip
        (.exit 0)))
      (.seq (.blk 1 (.seq (.ops [⟨(some 18), none, (.mov (.t 0))⟩,
          ⟨(some 19), none, (.mov (.t 5))⟩,
          ⟨(some 20), none, (.ixA 1 (.t 18) (.t 19))⟩,
          ⟨(some 21), none, (.ld 1 false (.t 20))⟩,
          ⟨(some 22), none, (.mov (.t 1))⟩,
          ⟨(some 23), none, (.mov (.t 5))⟩,
          ⟨(some 24), none, (.ixA 1 (.t 22) (.t 23))⟩,
          ⟨(some 25), none, (.ld 1 false (.t 24))⟩,
          ⟨(some 26), none, (.bin .neq (.t 21) (.t 25))⟩])
        (.cnd (.t 26)
          (.seq (.ops [⟨(some 27), none, (.mov (.t 0))⟩,
            ⟨(some 28), none, (.mov (.t 5))⟩,
            ⟨(some 29), none, (.ixA 1 (.t 27) (.t 28))⟩,
            ⟨(some 30), none, (.ld 1 false (.t 29))⟩,
            ⟨(some 31), none, (.mov (.t 1))⟩,
            ⟨(some 32), none, (.mov (.t 5))⟩,
            ⟨(some 33), none, (.ixA 1 (.t 31) (.t 32))⟩,
            ⟨(some 34), none, (.ld 1 false (.t 33))⟩,
            ⟨(some 35), none, (.bin .lss (.t 30) (.t 34))⟩,
            ⟨(some 4), none, (.mov (.t 35))⟩])
          .ret)
          .skip)))
      (.ops [⟨(some 16), none, (.mov (.t 5))⟩,
        ⟨(some 17), none, (.bin .add (.t 16) (.k (.int .i64 1)))⟩,
        ⟨(some 5), none, (.mov (.t 17))⟩]))))))
  (.seq (.ops [⟨(some 4), none, (.mov (.k (.bool false)))⟩])
  .ret)))⟩
def hint51 (P : Program) : Hint := {}

/-- aloeswood/aloeswoodlaw08.square -/
def ir48 : IFn :=
  ⟨23, [(4, none)], (.seq (.ops [⟨(some 4), none, (.mov (.k (.bool false)))⟩])
  (.seq (.seq (.ops [⟨(some 5), none, (.mov (.k (.int .i64 0)))⟩])
  (.blk 0 (.loop (.seq (.seq (.ops [⟨(some 6), none, (.mov (.t 5))⟩,
        ⟨(some 7), none, (.mov (.t 0))⟩,
        ⟨(some 8), none, (.len false (.t 7))⟩,
        ⟨(some 9), none, (.bin .lss (.t 6) (.t 8))⟩])
      (.cnd (.t 9)
        .skip
        (.exit 0)))
      (.seq (.blk 1 (.seq (.ops [⟨(some 12), none, (.mov (.t 0))⟩,
          ⟨(some 13), none, (.mov (.t 5))⟩,
          ⟨(some 14), none, (.ixA 1 (.t 12) (.t 13))⟩,
          ⟨(some 15), none, (.ld 1 false (.t 14))⟩,
          ⟨(some 16), none, (.len false (.t 15))⟩,
          ⟨(some 17), none, (.mov (.t 1))⟩,
          ⟨(some 18), none, (.bin .neq (.t 16) (.t 17))⟩])
        (.cnd (.t 18)
          (.seq (.ops [⟨(some 4), none, (.mov (.k (.bool false)))⟩])
          .ret)
          .skip)))
      (.ops [⟨(some 10), none, (.mov (.t 5))⟩,
        ⟨(some 11), none, (.bin .add (.t 10) (.k (.int .i64 1)))⟩,
        ⟨(some 5), none, (.mov (.t 11))⟩]))))))
  (.seq (.ops [⟨(some 19), none, (.mov (.t 0))⟩,
    ⟨(some 20), none, (.len false (.t 19))⟩,
    ⟨(some 21), none, (.mov (.t 1))⟩,
    ⟨(some 22), none, (.bin .eql (.t 20) (.t 21))⟩,
    ⟨(some 4), none, (.mov (.t 22))⟩])
  .ret)))⟩
def hint48 (P : Program) : Hint := {}

/-- Whether a list comes before another one. -/
def lexB : List Int → List Int → Bool
  | x :: a, y :: b => if x = y then lexB a b else decide (x < y)
  | _, _ => false
theorem lexB_self : ∀ a : List Int, lexB a a = false
  | [] => rfl
  | x :: a => by rw [lexB, if_pos rfl, lexB_self a]
theorem lexB_asym : ∀ {a b : List Int}, lexB a b = true → lexB b a = false
  | [], _, h => by cases h
  | _ :: _, [], h => by cases h
  | x :: a, y :: b, h => by
    rw [lexB] at h ⊢
    by_cases e : x = y
    · rw [if_pos e] at h; rw [if_pos e.symm]; exact lexB_asym h
    · rw [if_neg e] at h
      rw [if_neg (fun h => e h.symm)]
      have := of_decide_eq_true h
      exact decide_eq_false (by omega)
theorem lexB_app : ∀ (p : List Int) (a b : List Int), lexB (p ++ a) (p ++ b) = lexB a b
  | [], _, _ => rfl
  | x :: p, a, b => by rw [List.cons_append, List.cons_append, lexB, if_pos rfl, lexB_app p a b]
theorem permsK_pre {n : Nat} : ∀ {k : Nat} {now m : List Int}, m ∈ permsK n k now → ∃ t, m = now ++ t
  | 0, now, m, h => by simp [permsK] at h; exact ⟨[], by simp [h]⟩
  | k + 1, now, m, h => by
    simp only [permsK, List.mem_flatMap] at h
    obtain ⟨g, _, h⟩ := h
    obtain ⟨t, rfl⟩ := permsK_pre h
    exact ⟨g :: t, by simp⟩
theorem candF_sort (now : List Int) : ∀ (m s : Nat), (candF now m s).Pairwise (· < ·)
  | 0, s => List.Pairwise.nil
  | m + 1, s => by
    rw [candF]
    split
    · exact candF_sort now m (s + 1)
    · refine List.Pairwise.cons (fun x hx => ?_) (candF_sort now m (s + 1))
      have := candF_mem hx
      omega
theorem permsK_lex (n : Nat) : ∀ (k : Nat) (now : List Int), (permsK n k now).Pairwise fun a b => lexB a b = true
  | 0, now => List.pairwise_singleton _ _
  | k + 1, now => by
    rw [permsK, List.pairwise_flatMap]
    refine ⟨fun g _ => permsK_lex n k _, (candF_sort now n 0).imp fun {g h} hgh => ?_⟩
    intro x hx y hy
    obtain ⟨t, rfl⟩ := permsK_pre hx
    obtain ⟨u, rfl⟩ := permsK_pre hy
    rw [List.append_assoc, List.append_assoc, lexB_app]
    show lexB (g :: t) (h :: u) = true
    rw [lexB, if_neg (by omega)]; exact decide_eq_true hgh
/-- The best one is the first of the cheapest. -/
theorem best_first {gs : List Guest} {rs : List Rule} (h : pErr gs rs = 0) (hne : okL gs rs ≠ []) : ∃ l ∈ okL gs rs, bestP gs rs = (some l, prS gs rs l, 0) ∧ ∀ x ∈ okL gs rs, prS gs rs l ≤ prS gs rs x ∧ (prS gs rs x = prS gs rs l → lexB x l = false) := by
  have hr : rs.length ≤ 62 := by have := (pOK_of h).r12; omega
  have hb := bestB_eq gs rs hr
  have hp : bestP gs rs = if (bestB gs rs).1 = none then (none, 0, 12) else ((bestB gs rs).1, (bestB gs rs).2, 0) := by rw [bestP, if_pos h]
  obtain ⟨pre, l, post, h1, h2, h3, h4⟩ := bestL_spec (prS gs rs) hne
  rw [hb, h2] at hp
  have hs : (okL gs rs).Pairwise fun a b => lexB a b = true := (permsK_lex gs.length gs.length []).sublist List.filter_sublist
  rw [h1, List.pairwise_append] at hs
  refine ⟨l, by rw [h1]; simp, hp, fun x hx => ?_⟩
  rw [h1] at hx
  rcases List.mem_append.1 hx with hx | hx
  · have := h3 x hx
    exact ⟨by omega, fun e => by omega⟩
  · rcases List.mem_cons.1 hx with rfl | hx
    · exact ⟨Int.le_refl _, fun _ => lexB_self _⟩
    · exact ⟨h4 x hx, fun _ => lexB_asym ((List.pairwise_cons.1 hs.2.1).1 x hx)⟩
theorem bfS_snoc (l : List Int) (ls : List (List Int)) (x y : Nat) : bfS (ls ++ [l]) x y = bfS ls x y + bf l x y := by simp [bfS]
theorem free_c (gs : List Guest) (rs : List Rule) (m : List Int) (hm : ∀ i ∈ m, 0 ≤ i ∧ i < rs.length) (hl : m.length < 1000000) :
    Fn0 Try.prog 50 [pA gs rs, .slc 1 (iR m) .non] (fun v => v = .bool (m.all fun i => decide (wAt rs i ≠ 0))) := by
  refine RawC.walk (H := hint50 Try.prog) ir50 Try.func50 rfl rfl rfl ?_
  unfold ir50
  repeat' (first
    | with_reducible (first | refine Rd.p ?_ | refine zE ?_ | refine zE0 ?_)
    | with_reducible (first | refine zI fun y hy => ?_ | refine zL ?_ | refine zS ?_ | refine zA fun _ => ?_ | refine zV ?_ | refine zC ?_ | refine zG ?_ | refine zU ?_ | refine zG0 ?_ | refine zU0 ?_ | refine zF ?_)
    | with_reducible (first | refine zX ?_ | refine zD fun _ => ?_ | refine zD0 ?_ | refine zN ?_ | refine zF0 ?_ | refine zX0 ?_ | refine z1 ?_ | refine z2 ?_ | refine z3 ?_ | refine z4 ?_ | refine z5 ?_ | refine z6 ?_ | refine z7 ?_ | refine z8 ?_ | refine y1 ?_ | refine y2 ?_ | refine y3 ?_ | refine y4 ?_ | refine y5 ?_ | refine y6 ?_ | refine y7 ?_ | refine y8 ?_ | refine Rt.p (fun _ => ?_) fun _ => ?_)
    | ((with_reducible apply w_ixM); (focus exact rfl); (focus exact rfl); case' hk => intro y hy) | ((with_reducible (first | apply w_val | apply q_ends)); (focus exact rfl)))
  refine w_loopK [1, 2] [2] (fun x : List Int × List Int => m = x.1 ++ x.2 ∧ x.1.all (fun i => decide (wAt rs i ≠ 0)) = true) (fun x => x.2.length) (fun x => [(5, .int .i64 x.1.length)]) (fun _ => []) ([], m) ⟨rfl, rfl⟩ ⟨rfl, trivial⟩ trivial ?_
  rintro ⟨pre, post⟩ ⟨hl, hb⟩ e σ
  dsimp only at hl hb ⊢
  have hlen := congrArg List.length hl
  cases post with
  | nil =>
    simp only [List.append_nil, List.length_append, List.length_nil] at hlen
    repeat' (first
      | with_reducible (first | refine Rd.p ?_ | refine zE ?_ | refine zE0 ?_)
      | with_reducible (first | refine zI fun y hy => ?_ | refine zL ?_ | refine zS ?_ | refine zA fun _ => ?_ | refine zV ?_ | refine zC ?_ | refine zG ?_ | refine zU ?_ | refine zG0 ?_ | refine zU0 ?_ | refine zF ?_)
      | with_reducible (first | refine zX ?_ | refine zD fun _ => ?_ | refine zD0 ?_ | refine zN ?_ | refine zF0 ?_ | refine zX0 ?_ | refine z1 ?_ | refine z2 ?_ | refine z3 ?_ | refine z4 ?_ | refine z5 ?_ | refine z6 ?_ | refine z7 ?_ | refine z8 ?_ | refine y1 ?_ | refine y2 ?_ | refine y3 ?_ | refine y4 ?_ | refine y5 ?_ | refine y6 ?_ | refine y7 ?_ | refine y8 ?_ | refine Rt.p (fun _ => ?_) fun _ => ?_)
      | ((with_reducible apply w_ixM); (focus exact rfl); (focus exact rfl); case' hk => intro y hy) | ((with_reducible (first | apply w_val | apply q_ends)); (focus exact rfl)))
    rw [hl, List.append_nil, hb]; rfl
  | cons i post =>
    simp only [List.length_append, List.length_cons] at hlen
    have hi := hm i (by rw [hl]; simp)
    have hsp : rs = rs.take i.toNat ++ rs[i.toNat]'(by omega) :: rs.drop (i.toNat + 1) := by rw [List.getElem_cons_drop, List.take_append_drop]
    have hwi : wAt rs i = (rs[i.toNat]'(by omega)).weight := by simp [wAt, List.getElem?_eq_getElem (show i.toNat < rs.length by omega)]
    have hix : (i : Int) = ((rs.take i.toNat).length : Int) := by rw [List.length_take]; omega
    generalize rs[i.toNat]'(by omega) = y at hsp hwi
    repeat' (first
      | with_reducible (first | refine Rd.p ?_ | refine zE ?_ | refine zE0 ?_)
      | (first | refine w_ixP hl rfl rfl ?_ | refine w_ixP hsp rfl (congrArg (AV.int .i64) hix) ?_)
      | with_reducible (first | refine zI fun y hy => ?_ | refine zL ?_ | refine zS ?_ | refine zA fun _ => ?_ | refine zV ?_ | refine zC ?_ | refine zG ?_ | refine zU ?_ | refine zG0 ?_ | refine zU0 ?_ | refine zF ?_)
      | with_reducible (first | refine zX ?_ | refine zD fun _ => ?_ | refine zD0 ?_ | refine zN ?_ | refine zF0 ?_ | refine zX0 ?_ | refine z1 ?_ | refine z2 ?_ | refine z3 ?_ | refine z4 ?_ | refine z5 ?_ | refine z6 ?_ | refine z7 ?_ | refine z8 ?_ | refine y1 ?_ | refine y2 ?_ | refine y3 ?_ | refine y4 ?_ | refine y5 ?_ | refine y6 ?_ | refine y7 ?_ | refine y8 ?_ | refine Rt.p (fun _ => ?_) fun _ => ?_)
      | ((with_reducible apply w_ixM); (focus exact rfl); (focus exact rfl); case' hk => intro y hy) | ((with_reducible (first | apply w_val | apply q_ends)); (focus exact rfl)))
    · rename_i h
      refine congrArg AV.bool (Eq.symm ?_)
      rw [hl, List.all_append, List.all_cons, hwi, h]; simp
    · rename_i h
      refine zQ (pre ++ [i], post) ?_ ?_
      · refine ⟨by rw [hl]; simp, ?_⟩
        rw [List.all_append, hb, List.all_cons, hwi]; simp [h]
      · simp
theorem beforeL_c (a b : List Int) (ha : a.length < 1000000) (hb : b.length < 1000000) :
    Fn0 Try.prog 51 [.slc 1 (iR a) .non, .slc 1 (iR b) .non] (fun v => v = .bool (lexB a b)) := by
  refine RawC.walk (H := hint51 Try.prog) ir51 Try.func51 rfl rfl rfl ?_
  unfold ir51
  repeat' (first
    | with_reducible (first | refine Rd.p ?_ | refine zE ?_ | refine zE0 ?_)
    | with_reducible (first | refine zI fun y hy => ?_ | refine zL ?_ | refine zS ?_ | refine zA fun _ => ?_ | refine zV ?_ | refine zC ?_ | refine zG ?_ | refine zU ?_ | refine zG0 ?_ | refine zU0 ?_ | refine zF ?_)
    | with_reducible (first | refine zX ?_ | refine zD fun _ => ?_ | refine zD0 ?_ | refine zN ?_ | refine zF0 ?_ | refine zX0 ?_ | refine z1 ?_ | refine z2 ?_ | refine z3 ?_ | refine z4 ?_ | refine z5 ?_ | refine z6 ?_ | refine z7 ?_ | refine z8 ?_ | refine y1 ?_ | refine y2 ?_ | refine y3 ?_ | refine y4 ?_ | refine y5 ?_ | refine y6 ?_ | refine y7 ?_ | refine y8 ?_ | refine Rt.p (fun _ => ?_) fun _ => ?_)
    | ((with_reducible apply w_ixM); (focus exact rfl); (focus exact rfl); case' hk => intro y hy) | ((with_reducible (first | apply w_val | apply q_ends)); (focus exact rfl)))
  refine w_loopK [0, 1] [] (fun x : List Int × List Int × List Int => a = x.1 ++ x.2.1 ∧ b = x.1 ++ x.2.2) (fun x => x.2.1.length) (fun x => [(5, .int .i64 x.1.length)]) (fun _ => []) ([], a, b) ⟨rfl, rfl⟩ ⟨rfl, trivial⟩ trivial ?_
  rintro ⟨p, a2, b2⟩ ⟨h1, h2⟩ e σ
  dsimp only at h1 h2 ⊢
  have l1 := congrArg List.length h1
  have l2 := congrArg List.length h2
  cases a2 with
  | nil =>
    simp only [List.length_append, List.length_nil] at l1 l2
    repeat' (first
      | with_reducible (first | refine Rd.p ?_ | refine zE ?_ | refine zE0 ?_)
      | with_reducible (first | refine zI fun y hy => ?_ | refine zL ?_ | refine zS ?_ | refine zA fun _ => ?_ | refine zV ?_ | refine zC ?_ | refine zG ?_ | refine zU ?_ | refine zG0 ?_ | refine zU0 ?_ | refine zF ?_)
      | with_reducible (first | refine zX ?_ | refine zD fun _ => ?_ | refine zD0 ?_ | refine zN ?_ | refine zF0 ?_ | refine zX0 ?_ | refine z1 ?_ | refine z2 ?_ | refine z3 ?_ | refine z4 ?_ | refine z5 ?_ | refine z6 ?_ | refine z7 ?_ | refine z8 ?_ | refine y1 ?_ | refine y2 ?_ | refine y3 ?_ | refine y4 ?_ | refine y5 ?_ | refine y6 ?_ | refine y7 ?_ | refine y8 ?_ | refine Rt.p (fun _ => ?_) fun _ => ?_)
      | ((with_reducible apply w_ixM); (focus exact rfl); (focus exact rfl); case' hk => intro y hy) | ((with_reducible (first | apply w_val | apply q_ends)); (focus exact rfl)))
    rw [h1, h2, lexB_app]; cases b2 <;> rfl
  | cons x a2 =>
    cases b2 with
    | nil =>
      simp only [List.length_append, List.length_cons, List.length_nil] at l1 l2
      repeat' (first
        | with_reducible (first | refine Rd.p ?_ | refine zE ?_ | refine zE0 ?_)
        | with_reducible (first | refine zI fun y hy => ?_ | refine zL ?_ | refine zS ?_ | refine zA fun _ => ?_ | refine zV ?_ | refine zC ?_ | refine zG ?_ | refine zU ?_ | refine zG0 ?_ | refine zU0 ?_ | refine zF ?_)
        | with_reducible (first | refine zX ?_ | refine zD fun _ => ?_ | refine zD0 ?_ | refine zN ?_ | refine zF0 ?_ | refine zX0 ?_ | refine z1 ?_ | refine z2 ?_ | refine z3 ?_ | refine z4 ?_ | refine z5 ?_ | refine z6 ?_ | refine z7 ?_ | refine z8 ?_ | refine y1 ?_ | refine y2 ?_ | refine y3 ?_ | refine y4 ?_ | refine y5 ?_ | refine y6 ?_ | refine y7 ?_ | refine y8 ?_ | refine Rt.p (fun _ => ?_) fun _ => ?_)
        | ((with_reducible apply w_ixM); (focus exact rfl); (focus exact rfl); case' hk => intro y hy) | ((with_reducible (first | apply w_val | apply q_ends)); (focus exact rfl)))
      rw [h1, h2, lexB_app]; rfl
    | cons y b2 =>
      simp only [List.length_append, List.length_cons] at l1 l2
      repeat' (first
        | with_reducible (first | refine Rd.p ?_ | refine zE ?_ | refine zE0 ?_)
        | (first | refine w_ixP h1 rfl rfl ?_ | refine w_ixP h2 rfl rfl ?_)
        | with_reducible (first | refine zI fun y hy => ?_ | refine zL ?_ | refine zS ?_ | refine zA fun _ => ?_ | refine zV ?_ | refine zC ?_ | refine zG ?_ | refine zU ?_ | refine zG0 ?_ | refine zU0 ?_ | refine zF ?_)
        | with_reducible (first | refine zX ?_ | refine zD fun _ => ?_ | refine zD0 ?_ | refine zN ?_ | refine zF0 ?_ | refine zX0 ?_ | refine z1 ?_ | refine z2 ?_ | refine z3 ?_ | refine z4 ?_ | refine z5 ?_ | refine z6 ?_ | refine z7 ?_ | refine z8 ?_ | refine y1 ?_ | refine y2 ?_ | refine y3 ?_ | refine y4 ?_ | refine y5 ?_ | refine y6 ?_ | refine y7 ?_ | refine y8 ?_ | refine Rt.p (fun _ => ?_) fun _ => ?_)
        | ((with_reducible apply w_ixM); (focus exact rfl); (focus exact rfl); case' hk => intro y hy) | ((with_reducible (first | apply w_val | apply q_ends)); (focus exact rfl)))
      · rename_i h
        rw [h1, h2, lexB_app, lexB, if_neg h]; rfl
      · rename_i h
        have hxy : x = y := by omega
        subst hxy
        refine zQ (p ++ [x], a2, b2) ?_ ?_
        · exact ⟨by rw [h1]; simp, by rw [h2]; simp⟩
        · simp
theorem square_c (ls : List (List Int)) (n : Nat) (hl : ls.length < 1000000) (hn : n < 1000000) (h : ls.length = n) (h2 : ∀ l ∈ ls, l.length = n) :
    Fn0 Try.prog 48 [.slc 1 (llR ls) .non, .int .i64 n] (fun v => v = .bool true) := by
  refine RawC.walk (H := hint48 Try.prog) ir48 Try.func48 rfl rfl rfl ?_
  unfold ir48
  repeat' (first
    | with_reducible (first | refine Rd.p ?_ | refine zE ?_ | refine zE0 ?_)
    | with_reducible (first | refine zI fun y hy => ?_ | refine zL ?_ | refine zS ?_ | refine zA fun _ => ?_ | refine zV ?_ | refine zC ?_ | refine zG ?_ | refine zU ?_ | refine zG0 ?_ | refine zU0 ?_ | refine zF ?_)
    | with_reducible (first | refine zX ?_ | refine zD fun _ => ?_ | refine zD0 ?_ | refine zN ?_ | refine zF0 ?_ | refine zX0 ?_ | refine z1 ?_ | refine z2 ?_ | refine z3 ?_ | refine z4 ?_ | refine z5 ?_ | refine z6 ?_ | refine z7 ?_ | refine z8 ?_ | refine y1 ?_ | refine y2 ?_ | refine y3 ?_ | refine y4 ?_ | refine y5 ?_ | refine y6 ?_ | refine y7 ?_ | refine y8 ?_ | refine Rt.p (fun _ => ?_) fun _ => ?_)
    | ((with_reducible apply w_ixM); (focus exact rfl); (focus exact rfl); case' hk => intro y hy) | ((with_reducible (first | apply w_val | apply q_ends)); (focus exact rfl)))
  refine w_loopK [0, 1] [] (fun x : List (List Int) × List (List Int) => ls = x.1 ++ x.2) (fun x => x.2.length) (fun x => [(5, .int .i64 x.1.length)]) (fun _ => []) ([], ls) rfl ⟨rfl, trivial⟩ trivial ?_
  rintro ⟨pre, post⟩ hp e σ
  dsimp only at hp ⊢
  have hlen := congrArg List.length hp
  cases post with
  | nil =>
    simp only [List.append_nil, List.length_append, List.length_nil] at hlen
    repeat' (first
      | with_reducible (first | refine Rd.p ?_ | refine zE ?_ | refine zE0 ?_)
      | with_reducible (first | refine zI fun y hy => ?_ | refine zL ?_ | refine zS ?_ | refine zA fun _ => ?_ | refine zV ?_ | refine zC ?_ | refine zG ?_ | refine zU ?_ | refine zG0 ?_ | refine zU0 ?_ | refine zF ?_)
      | with_reducible (first | refine zX ?_ | refine zD fun _ => ?_ | refine zD0 ?_ | refine zN ?_ | refine zF0 ?_ | refine zX0 ?_ | refine z1 ?_ | refine z2 ?_ | refine z3 ?_ | refine z4 ?_ | refine z5 ?_ | refine z6 ?_ | refine z7 ?_ | refine z8 ?_ | refine y1 ?_ | refine y2 ?_ | refine y3 ?_ | refine y4 ?_ | refine y5 ?_ | refine y6 ?_ | refine y7 ?_ | refine y8 ?_ | refine Rt.p (fun _ => ?_) fun _ => ?_)
      | ((with_reducible apply w_ixM); (focus exact rfl); (focus exact rfl); case' hk => intro y hy) | ((with_reducible (first | apply w_val | apply q_ends)); (focus exact rfl)))
    rw [decide_eq_true (show ((ls.length : Nat) : Int) = (n : Int) by omega)]; rfl
  | cons x post =>
    simp only [List.length_append, List.length_cons] at hlen
    have hx := h2 x (by rw [hp]; simp)
    repeat' (first
      | with_reducible (first | refine Rd.p ?_ | refine zE ?_ | refine zE0 ?_)
      | (refine w_ixP hp rfl rfl ?_)
      | with_reducible (first | refine zI fun y hy => ?_ | refine zL ?_ | refine zS ?_ | refine zA fun _ => ?_ | refine zV ?_ | refine zC ?_ | refine zG ?_ | refine zU ?_ | refine zG0 ?_ | refine zU0 ?_ | refine zF ?_)
      | with_reducible (first | refine zX ?_ | refine zD fun _ => ?_ | refine zD0 ?_ | refine zN ?_ | refine zF0 ?_ | refine zX0 ?_ | refine z1 ?_ | refine z2 ?_ | refine z3 ?_ | refine z4 ?_ | refine z5 ?_ | refine z6 ?_ | refine z7 ?_ | refine z8 ?_ | refine y1 ?_ | refine y2 ?_ | refine y3 ?_ | refine y4 ?_ | refine y5 ?_ | refine y6 ?_ | refine y7 ?_ | refine y8 ?_ | refine Rt.p (fun _ => ?_) fun _ => ?_)
      | ((with_reducible apply w_ixM); (focus exact rfl); (focus exact rfl); case' hk => intro y hy) | ((with_reducible (first | apply w_val | apply q_ends)); (focus exact rfl)))
    refine zQ (pre ++ [x], post) ?_ ?_
    · rw [hp]; simp
    · simp
end Go.Abs
