/- A part of the proofs of the laws of this seat: contracts of the functions that they reach, each proved of the program's form in Lean. No condition beyond those that each contract names. -/
import Derived.Test.YtmekfgjlcaonjaaC14
import Derived.Test.YtmekfgjlcaonjaaC13
import Derived.Test.YtmekfgjlcaonjaaC12
import Derived.Test.YtmekfgjlcaonjaaC11
import Derived.Test.YtmekfgjlcaonjaaC10
import Derived.Test.YtmekfgjlcaonjaaC9
import Derived.Test.YtmekfgjlcaonjaaC8
import Derived.Test.YtmekfgjlcaonjaaC7
import Derived.Test.YtmekfgjlcaonjaaC5
import Derived.Test.YtmekfgjlcaonjaaC4
import Derived.Test.YtmekfgjlcaonjaaC2
import Derived.Test.YtmekfgjlcaonjaaC1
import Derived.Test.YtmekfgjlcaonjaaB
set_option linter.unusedVariables false
set_option linter.unusedSimpArgs false
set_option maxRecDepth 20000
set_option maxHeartbeats 4000000
namespace Go.Abs
open Go.Proofs
/-- aloeswood/aloeswoodkit.SeasonOf -/
def ir42 : IFn :=
  ⟨51, [(4, some (2, true))], (.seq (.ops [⟨(some 4), none, (.new [.nsl, .nsl])⟩])
  (.seq (.ops [⟨(some 5), none, (.new [.nsl, .nsl])⟩])
  (.seq (.seq (.ops [⟨(some 10), none, (.mov (.t 0))⟩,
    ⟨(some 11), none, (.callF 74 [(.t 10), (.k (.int .i64 1)), (.k (.int .i64 3))])⟩,
    ⟨(some 6), none, (.mov (.t 11))⟩])
  (.blk 0 (.loop (.seq (.seq (.ops [⟨(some 12), none, (.mov (.t 6))⟩,
        ⟨(some 13), none, (.bin .gtr (.t 12) (.k (.int .i64 0)))⟩])
      (.cnd (.t 13)
        .skip
        (.exit 0)))
      (.seq (.blk 1 (.ops [⟨(some 16), none, (.flA 0 (.t 5))⟩,
          ⟨(some 17), none, (.ld 1 false (.t 16))⟩,
          ⟨(some 18), none, (.mov (.t 0))⟩,
          ⟨(some 19), none, (.mov (.t 0))⟩,
          ⟨(some 20), none, (.callF 74 [(.t 19), (.k (.int .i64 1)), (.k (.int .i64 3))])⟩,
          ⟨none, none, (.chk 1 false (.t 16) 17)⟩,
          ⟨(some 21), none, (.bsl 1 [[(.int .i64 0)], [(.int .i64 0)], [(.int .i64 0)], [(.int .i64 0)]] [(0, (.k (.int .i64 1))), (1, (.k (.int .i64 1))), (2, (.k (.int .i64 2))), (3, (.t 20))])⟩,
          ⟨(some 22), none, (.callF 90 [(.t 18), (.t 21)])⟩,
          ⟨none, none, (.chk 1 false (.t 16) 17)⟩,
          ⟨(some 23), none, (.bsl 1 [[(.int .i64 0)]] [(0, (.t 22))])⟩,
          ⟨(some 24), none, (.app 1 8 (.t 17) (.t 23) 24)⟩,
          ⟨(some 25), none, (.flA 0 (.t 5))⟩,
          ⟨none, none, (.st 1 (.t 25) (.t 24))⟩]))
      (.ops [⟨(some 14), none, (.mov (.t 6))⟩,
        ⟨(some 15), none, (.bin .sub (.t 14) (.k (.int .i64 1)))⟩,
        ⟨(some 6), none, (.mov (.t 15))⟩]))))))
  (.seq (.ops [⟨(some 26), none, (.mov (.t 0))⟩,
    ⟨(some 27), none, (.callF 74 [(.t 26), (.k (.int .i64 1)), (.k (.int .i64 6))])⟩,
    ⟨(some 7), none, (.mov (.t 27))⟩])
  (.seq (.seq (.ops [⟨(some 28), none, (.mov (.t 0))⟩,
    ⟨(some 29), none, (.mov (.t 1))⟩,
    ⟨(some 30), none, (.bin .add (.t 29) (.k (.int .i64 1)))⟩,
    ⟨(some 31), none, (.callF 20 [(.t 28), (.t 30)])⟩,
    ⟨(some 8), none, (.mov (.t 31))⟩])
  (.blk 2 (.loop (.seq (.seq (.ops [⟨(some 32), none, (.mov (.t 8))⟩,
        ⟨(some 33), none, (.bin .gtr (.t 32) (.k (.int .i64 0)))⟩])
      (.cnd (.t 33)
        .skip
        (.exit 2)))
      (.seq (.blk 3 (.seq (.ops [⟨(some 36), none, (.mov (.t 0))⟩,
          ⟨(some 37), none, (.mov (.t 7))⟩,
          ⟨(some 38), none, (.callF 76 [(.t 36), (.t 37)])⟩,
          ⟨(some 9), none, (.mov (.t 38))⟩])
        (.ops [⟨(some 39), none, (.flA 1 (.t 5))⟩,
          ⟨(some 40), none, (.ld 1 false (.t 39))⟩,
          ⟨(some 41), none, (.mov (.t 9))⟩,
          ⟨(some 42), none, (.mov (.t 0))⟩,
          ⟨(some 43), none, (.mov (.t 7))⟩,
          ⟨(some 44), none, (.mxi false (.k (.int .i64 3)) (.t 43))⟩,
          ⟨(some 45), none, (.callF 74 [(.t 42), (.k (.int .i64 1)), (.t 44)])⟩,
          ⟨none, none, (.chk 1 false (.t 39) 40)⟩,
          ⟨(some 46), none, (.slS 1 (.t 41) none (some (.t 45)) none)⟩,
          ⟨(some 47), none, (.bsl 1 [[.nsl]] [(0, (.t 46))])⟩,
          ⟨(some 48), none, (.app 1 24 (.t 40) (.t 47) 48)⟩,
          ⟨(some 49), none, (.flA 1 (.t 5))⟩,
          ⟨none, none, (.st 1 (.t 49) (.t 48))⟩])))
      (.ops [⟨(some 34), none, (.mov (.t 8))⟩,
        ⟨(some 35), none, (.bin .sub (.t 34) (.k (.int .i64 1)))⟩,
        ⟨(some 8), none, (.mov (.t 35))⟩]))))))
  (.seq (.ops [⟨(some 50), none, (.ld 2 true (.t 5))⟩,
    ⟨none, none, (.st 2 (.t 4) (.t 50))⟩])
  .ret))))))⟩
def hint42 (P : Program) : Hint := {}
def fldV (xs : List Int) (g : Nat) : AV := match xs with
  | [] => .nsl
  | _ :: _ => .slc 1 (iR xs) (.own 24 g)
def fldG (xs : List (List Int)) (g : Nat) : AV := match xs with
  | [] => .nsl
  | _ :: _ => .slc 1 (llR xs) (.own 48 g)
def fldS (xs : List Int) (g : Nat) : List (Nat × (Nat × Res)) := match xs with
  | [] => []
  | _ :: _ => [(24, (g, .row []))]
def fldT (xs : List (List Int)) (g : Nat) : List (Nat × (Nat × Res)) := match xs with
  | [] => []
  | _ :: _ => [(48, (g, .row []))]
theorem gathE_of : ∀ (l pre : List Int), (pre ++ l).Nodup → (∀ x ∈ l, 0 ≤ x ∧ x ≤ 11) → gathE pre l = 0
  | [], _, _, _ => rfl
  | a :: r, pre, hn, hb => by
    have h1 : a ∉ pre := by
      rw [List.nodup_append] at hn
      exact fun h => hn.2.2 a h a (by simp) rfl
    rw [gathE, if_pos (inB_t.2 (hb a (by simp))), if_neg (fun h => h1 (idx_mem.1 h))]
    exact gathE_of r (pre ++ [a]) (by rw [List.append_assoc]; exact hn) fun x hx => hb x (by simp [hx])
theorem gathsE_snoc : ∀ (gs : List (List Int)) (l : List Int), gathsE gs = 0 → l ≠ [] → gathE [] l = 0 → gathsE (gs ++ [l]) = 0
  | [], l, _, h1, h2 => by rw [List.nil_append, gathsE, if_neg h1, if_pos h2]; rfl
  | g :: gs, l, h, h1, h2 => by
    rw [gathsE] at h
    rw [List.cons_append, gathsE]
    by_cases hg : g = []
    · rw [if_pos hg] at h; exact absurd h (by decide)
    · rw [if_neg hg] at h ⊢
      by_cases hh : gathE [] g = 0
      · rw [if_pos hh] at h ⊢; exact gathsE_snoc gs l h h1 h2
      · rw [if_neg hh] at h; exact absurd h hh
theorem perm_take {n m : Nat} {l : List Int} (h : isPerm n l) (hn : n ≤ 12) (hm : 1 ≤ m) (h0 : 1 ≤ n) : l.take m ≠ [] ∧ gathE [] (l.take m) = 0 := by
  constructor
  · intro e
    have := congrArg List.length e
    rw [List.length_take, h.len] at this
    simp at this; omega
  · refine gathE_of _ [] ?_ fun x hx => ?_
    · rw [List.nil_append]; exact (List.take_sublist _ _).nodup h.nd
    · have := h.bd x (List.mem_of_mem_take hx); omega
def optG : List (List Int) → AV
  | [] => .nsl
  | x :: r => .slc 1 (llR (x :: r)) .non
theorem madeE {ss : List Int} {gs : List (List Int)} (h1 : ss ≠ []) (h2 : ss.length ≤ 3) (h3 : ∀ y ∈ ss, 1 ≤ y ∧ y ≤ 6) (h4 : gs.length ≤ 9) (h5 : gathsE gs = 0) : seaE ⟨ss, gs⟩ = 0 := by
  unfold seaE
  rw [if_neg h1, if_neg (by show ¬ 4 < ss.length; omega), if_pos (show sortsB ss = true from List.all_eq_true.2 fun y hy => inB_t.2 (h3 y hy)), if_neg (by show ¬ 9 < gs.length; omega)]
  exact h5
theorem orderL_c (g : Nat) (w : Int) (n : Nat) (hn : 1 ≤ n ∧ n ≤ 1000) : RawC Try.prog 76 [.ref 1000 g 0, .int .i64 n] (BoxS g w) (BoxR g fun av => ∃ l, av = .slc 1 (iR l) .non ∧ l.length = n ∧ isPerm n l) :=
  (order_c g w n hn).mono fun _ _ ⟨w', ⟨l, h1, h2⟩, h3⟩ => ⟨w', ⟨l, h1, h2.len, h2⟩, h3⟩
theorem seasonO_c (g : Nat) (w : Int) (k : Int) (hk : 0 ≤ k ∧ k ≤ 9) : RawC Try.prog 42 [.ref 1000 g 0, .int .i64 k] (BoxS g w) (BoxR g fun av => ∃ s : Sea, av = .agg [.slc 1 (iR s.ss) .non, optG s.gs] ∧ seaE s = 0 ∧ s.gs.length ≤ k ∧ ∀ y ∈ s.ss, y ≤ 3) := by
  refine RawC.walk (H := hint42 Try.prog) ir42 Try.func42 rfl rfl rfl ?_
  unfold ir42
  repeat' (first
    | with_reducible (first | refine Rd.p ?_ | refine w_alt ?_ ?_ | refine zE ?_ | refine zE0 ?_)
    | with_reducible (first | refine zI fun y hy => ?_ | refine zL ?_ | refine zS ?_ | refine zA fun _ => ?_ | refine zV ?_ | refine zC ?_ | refine zG ?_ | refine zU ?_ | refine zG0 ?_ | refine zU0 ?_ | refine zF ?_)
    | ((with_reducible refine acall_id ?_); refine ACall.box (any_c _ _ 1 3 (by omega) (by omega) (by omega) (by omega)) rfl rfl rfl ?_; rintro _ _ ⟨n0, rfl, hn0, hn1⟩)
    | with_reducible (first | refine zX ?_ | refine zD fun _ => ?_ | refine zD0 ?_ | refine zN ?_ | refine zF0 ?_ | refine zX0 ?_ | refine z1 ?_ | refine z2 ?_ | refine z3 ?_ | refine z4 ?_ | refine z5 ?_ | refine z6 ?_ | refine z7 ?_ | refine z8 ?_ | refine y1 ?_ | refine y2 ?_ | refine y3 ?_ | refine y4 ?_ | refine y5 ?_ | refine y6 ?_ | refine y7 ?_ | refine y8 ?_ | refine Rt.p (fun _ => ?_) fun _ => ?_)
    | ((with_reducible apply w_ixM); (focus exact rfl); (focus exact rfl); case' hk => intro y hy) | ((with_reducible (first | apply w_val | apply q_ends)); (focus exact rfl)))
  rename_i g4 g5 w1
  have hn03 : n0 ≤ 3 := by omega
  refine w_loopK [0, 1, 4, 5] [4] (fun x : List Int × Nat × Int => x.1.length ≤ n0 ∧ ∀ y ∈ x.1, 1 ≤ y ∧ y ≤ 3) (fun x => (n0 - x.1.length).toNat) (fun x => [(6, .int .i64 (n0 - x.1.length))])
    (fun x => [(1000, (g, .row [.int .u64 x.2.2])), (5, (g5, .row [fldV x.1 x.2.1, .nsl]))] ++ fldS x.1 x.2.1) ([], 0, _) ⟨by simp; omega, by simp⟩ ⟨by show AV.int .i64 _ = AV.int .i64 _; refine int_eq ?_; simp, trivial⟩ (by exact ⟨rfl, rfl, trivial⟩) ?_
  rintro ⟨xs, g24, w⟩ ⟨hl, hx⟩ e σ
  dsimp only at hl hx ⊢
  by_cases hlt : xs.length < n0
  · have hsl : ∀ n, (xs ++ [n]).length = xs.length + 1 := fun n => by simp
    cases xs with
    | nil =>
      have h0 : ([] : List Int).length = 0 := rfl
      repeat' (first
        | with_reducible (first | refine Rd.p ?_ | refine w_alt ?_ ?_ | refine zE ?_ | refine zE0 ?_)
        | with_reducible (first | refine zI fun y hy => ?_ | refine zL ?_ | refine zS ?_ | refine zA fun _ => ?_ | refine zV ?_ | refine zC ?_ | refine zG ?_ | refine zU ?_ | refine zG0 ?_ | refine zU0 ?_ | refine zF ?_)
        | ((with_reducible refine acall_id ?_); refine ACall.box (any_c _ _ 1 3 (by omega) (by omega) (by omega) (by omega)) rfl rfl rfl ?_; rintro _ _ ⟨n2, rfl, hn2, hn4⟩)
        | ((with_reducible refine acall_id ?_); refine ACall.box (pick_c _ _ [1, 1, 2, _] (by simp) (by simp)) rfl rfl rfl ?_; rintro _ _ ⟨n5, rfl, hn5⟩)
        | with_reducible (first | refine zX ?_ | refine zD fun _ => ?_ | refine zD0 ?_ | refine zN ?_ | refine zF0 ?_ | refine zX0 ?_ | refine z1 ?_ | refine z2 ?_ | refine z3 ?_ | refine z4 ?_ | refine z5 ?_ | refine z6 ?_ | refine z7 ?_ | refine z8 ?_ | refine y1 ?_ | refine y2 ?_ | refine y3 ?_ | refine y4 ?_ | refine y5 ?_ | refine y6 ?_ | refine y7 ?_ | refine y8 ?_ | refine Rt.p (fun _ => ?_) fun _ => ?_)
        | ((with_reducible apply w_ixM); (focus exact rfl); (focus exact rfl); case' hk => intro y hy) | ((with_reducible (first | apply w_val | apply q_ends)); (focus exact rfl)))
      refine q_loop ([n5], _, _) ?_ ?_ (slots_cons (by show AV.int .i64 _ = AV.int .i64 _; refine int_eq ?_; simp) slots_nil) (by exact ⟨rfl, rfl, rfl, trivial⟩) (by repeat' (first | exact kept_nil | apply kept_cons | rfl)) (by repeat' (first | exact kept_nil | apply kept_cons | rfl))
      · refine ⟨by simp; omega, fun y hy => ?_⟩
        obtain rfl : y = n5 := by simpa using hy
        simp at hn5; omega
      · simp; omega
    | cons x xs =>
      repeat' (first
        | with_reducible (first | refine Rd.p ?_ | refine w_alt ?_ ?_ | refine zE ?_ | refine zE0 ?_)
        | with_reducible (first | refine zI fun y hy => ?_ | refine zL ?_ | refine zS ?_ | refine zA fun _ => ?_ | refine zV ?_ | refine zC ?_ | refine zG ?_ | refine zU ?_ | refine zG0 ?_ | refine zU0 ?_ | refine zF ?_)
        | ((with_reducible refine acall_id ?_); refine ACall.box (any_c _ _ 1 3 (by omega) (by omega) (by omega) (by omega)) rfl rfl rfl ?_; rintro _ _ ⟨n2, rfl, hn2, hn4⟩)
        | ((with_reducible refine acall_id ?_); refine ACall.box (pick_c _ _ [1, 1, 2, _] (by simp) (by simp)) rfl rfl rfl ?_; rintro _ _ ⟨n5, rfl, hn5⟩)
        | with_reducible (first | refine zX ?_ | refine zD fun _ => ?_ | refine zD0 ?_ | refine zN ?_ | refine zF0 ?_ | refine zX0 ?_ | refine z1 ?_ | refine z2 ?_ | refine z3 ?_ | refine z4 ?_ | refine z5 ?_ | refine z6 ?_ | refine z7 ?_ | refine z8 ?_ | refine y1 ?_ | refine y2 ?_ | refine y3 ?_ | refine y4 ?_ | refine y5 ?_ | refine y6 ?_ | refine y7 ?_ | refine y8 ?_ | refine Rt.p (fun _ => ?_) fun _ => ?_)
        | ((with_reducible apply w_ixM); (focus exact rfl); (focus exact rfl); case' hk => intro y hy) | ((with_reducible (first | apply w_val | apply q_ends)); (focus exact rfl)))
      refine q_loop (x :: (xs ++ [n5]), _, _) ?_ ?_ (slots_cons (by show AV.int .i64 _ = AV.int .i64 _; refine int_eq ?_; simp; omega) slots_nil) (by exact ⟨rfl, rfl, rfl, trivial⟩) (by repeat' (first | exact kept_nil | apply kept_cons | rfl)) (by repeat' (first | exact kept_nil | apply kept_cons | rfl))
      · refine ⟨by simp at hlt ⊢; omega, fun y hy => ?_⟩
        have : y ∈ x :: xs ∨ y = n5 := by simp at hy ⊢; rcases hy with h | h | h <;> simp [h]
        rcases this with h | rfl
        · exact hx y h
        · simp at hn5; omega
      · simp at hlt ⊢; omega
  · cases xs with
    | nil => exfalso; simp at hlt; omega
    | cons x xs =>
      repeat' (first
        | with_reducible (first | refine Rd.p ?_ | refine w_alt ?_ ?_ | refine zE ?_ | refine zE0 ?_)
        | with_reducible (first | refine zI fun y hy => ?_ | refine zL ?_ | refine zS ?_ | refine zA fun _ => ?_ | refine zV ?_ | refine zC ?_ | refine zG ?_ | refine zU ?_ | refine zG0 ?_ | refine zU0 ?_ | refine zF ?_)
        | ((with_reducible refine acall_id ?_); refine ACall.box (any_c _ _ 1 6 (by omega) (by omega) (by omega) (by omega)) rfl rfl rfl ?_; rintro _ _ ⟨n2, rfl, hn2, hn4⟩)
        | ((with_reducible refine acall_id ?_); refine ACall.box (upp_c _ _ (k + 1) (by omega) (by omega)) rfl rfl rfl ?_; rintro _ _ ⟨n3, rfl, hn3, hn5⟩)
        | with_reducible (first | refine zX ?_ | refine zD fun _ => ?_ | refine zD0 ?_ | refine zN ?_ | refine zF0 ?_ | refine zX0 ?_ | refine z1 ?_ | refine z2 ?_ | refine z3 ?_ | refine z4 ?_ | refine z5 ?_ | refine z6 ?_ | refine z7 ?_ | refine z8 ?_ | refine y1 ?_ | refine y2 ?_ | refine y3 ?_ | refine y4 ?_ | refine y5 ?_ | refine y6 ?_ | refine y7 ?_ | refine y8 ?_ | refine Rt.p (fun _ => ?_) fun _ => ?_)
        | ((with_reducible apply w_ixM); (focus exact rfl); (focus exact rfl); case' hk => intro y hy) | ((with_reducible (first | apply w_val | apply q_ends)); (focus exact rfl)))
      obtain ⟨N, rfl⟩ : ∃ N : Nat, n2 = N := ⟨n2.toNat, by omega⟩
      refine w_loopK [0, 4, 5, 7] [4, 24] (fun y : List (List Int) × Nat × Int => y.1.length ≤ n3 ∧ gathsE y.1 = 0) (fun y => (n3 - y.1.length).toNat) (fun y => [(8, .int .i64 (n3 - y.1.length))])
        (fun y => [(1000, (g, .row [.int .u64 y.2.2])), (5, (g5, .row [.slc 1 (iR (x :: xs)) (.own 24 g24), fldG y.1 y.2.1]))] ++ fldT y.1 y.2.1) ([], 0, _) ⟨by simp; omega, rfl⟩ ⟨by show AV.int .i64 _ = AV.int .i64 _; refine int_eq ?_; simp, trivial⟩ (by exact ⟨rfl, rfl, trivial⟩) ?_
      rintro ⟨gs, g48, w⟩ ⟨hgl, hgE⟩ e σ
      dsimp only at hgl hgE ⊢
      have hsl2 : ∀ n, (gs ++ [n]).length = gs.length + 1 := fun n => by simp
      by_cases hlt2 : gs.length < n3
      · cases gs with
        | nil =>
          have h0 : ([] : List (List Int)).length = 0 := rfl
          repeat' (first
            | with_reducible (first | refine Rd.p ?_ | refine w_alt ?_ ?_ | refine zE ?_ | refine zE0 ?_)
            | with_reducible (first | refine zI fun y hy => ?_ | refine zL ?_ | refine zS ?_ | refine zA fun _ => ?_ | refine zV ?_ | refine zC ?_ | refine zG ?_ | refine zU ?_ | refine zG0 ?_ | refine zU0 ?_ | refine zF ?_)
            | ((with_reducible refine acall_id ?_); refine ACall.box (orderL_c _ _ N (by omega)) rfl rfl rfl ?_; rintro _ _ ⟨ol, rfl, holl, hol⟩)
            | ((with_reducible refine acall_id ?_); refine ACall.box (any_c _ _ 1 _ (by omega) (by omega) (by omega) (by omega)) rfl rfl rfl ?_; rintro _ _ ⟨m, rfl, hm1, hm2⟩)
            | with_reducible (first | refine zX ?_ | refine zD fun _ => ?_ | refine zD0 ?_ | refine zN ?_ | refine zF0 ?_ | refine zX0 ?_ | refine z1 ?_ | refine z2 ?_ | refine z3 ?_ | refine z4 ?_ | refine z5 ?_ | refine z6 ?_ | refine z7 ?_ | refine z8 ?_ | refine y1 ?_ | refine y2 ?_ | refine y3 ?_ | refine y4 ?_ | refine y5 ?_ | refine y6 ?_ | refine y7 ?_ | refine y8 ?_ | refine Rt.p (fun _ => ?_) fun _ => ?_)
            | ((with_reducible apply w_ixM); (focus exact rfl); (focus exact rfl); case' hk => intro y hy) | ((with_reducible (first | apply w_val | apply q_ends)); (focus exact rfl)))
          have hel : (ol.drop (0 : Int).toNat).take (m - 0).toNat = ol.take m.toNat := by simp
          have hpt := perm_take hol (by omega) (show 1 ≤ m.toNat by omega) (by omega)
          rw [← hel] at hpt
          refine q_loop ([(ol.drop (0 : Int).toNat).take (m - 0).toNat], _, _) ?_ ?_ (slots_cons (by show AV.int .i64 _ = AV.int .i64 _; refine int_eq ?_; simp; try omega) slots_nil) (by exact ⟨rfl, rfl, rfl, trivial⟩) (by repeat' (first | exact kept_nil | apply kept_cons | rfl)) (by repeat' (first | exact kept_nil | apply kept_cons | rfl))
          · exact ⟨by simp at hlt2 ⊢; omega, gathsE_snoc [] _ hgE hpt.1 hpt.2⟩
          · simp at hlt2 ⊢; omega
        | cons y gs =>
          repeat' (first
            | with_reducible (first | refine Rd.p ?_ | refine w_alt ?_ ?_ | refine zE ?_ | refine zE0 ?_)
            | with_reducible (first | refine zI fun y hy => ?_ | refine zL ?_ | refine zS ?_ | refine zA fun _ => ?_ | refine zV ?_ | refine zC ?_ | refine zG ?_ | refine zU ?_ | refine zG0 ?_ | refine zU0 ?_ | refine zF ?_)
            | ((with_reducible refine acall_id ?_); refine ACall.box (orderL_c _ _ N (by omega)) rfl rfl rfl ?_; rintro _ _ ⟨ol, rfl, holl, hol⟩)
            | ((with_reducible refine acall_id ?_); refine ACall.box (any_c _ _ 1 _ (by omega) (by omega) (by omega) (by omega)) rfl rfl rfl ?_; rintro _ _ ⟨m, rfl, hm1, hm2⟩)
            | with_reducible (first | refine zX ?_ | refine zD fun _ => ?_ | refine zD0 ?_ | refine zN ?_ | refine zF0 ?_ | refine zX0 ?_ | refine z1 ?_ | refine z2 ?_ | refine z3 ?_ | refine z4 ?_ | refine z5 ?_ | refine z6 ?_ | refine z7 ?_ | refine z8 ?_ | refine y1 ?_ | refine y2 ?_ | refine y3 ?_ | refine y4 ?_ | refine y5 ?_ | refine y6 ?_ | refine y7 ?_ | refine y8 ?_ | refine Rt.p (fun _ => ?_) fun _ => ?_)
            | ((with_reducible apply w_ixM); (focus exact rfl); (focus exact rfl); case' hk => intro y hy) | ((with_reducible (first | apply w_val | apply q_ends)); (focus exact rfl)))
          have hel : (ol.drop (0 : Int).toNat).take (m - 0).toNat = ol.take m.toNat := by simp
          have hpt := perm_take hol (by omega) (show 1 ≤ m.toNat by omega) (by omega)
          rw [← hel] at hpt
          refine q_loop (y :: (gs ++ [(ol.drop (0 : Int).toNat).take (m - 0).toNat]), _, _) ?_ ?_ (slots_cons (by show AV.int .i64 _ = AV.int .i64 _; refine int_eq ?_; simp; try omega) slots_nil) (by exact ⟨rfl, rfl, rfl, trivial⟩) (by repeat' (first | exact kept_nil | apply kept_cons | rfl)) (by repeat' (first | exact kept_nil | apply kept_cons | rfl))
          · exact ⟨by simp at hlt2 ⊢; omega, gathsE_snoc (y :: gs) _ hgE hpt.1 hpt.2⟩
          · simp at hlt2 ⊢; omega
      · have hnn : n0 ≤ 3 := hn03
        have hl3 : (x :: xs).length ≤ 3 := by omega
        have hm := madeE (gs := gs) (show x :: xs ≠ [] by simp) hl3 (fun y hy => by have := hx y hy; omega) (by omega) hgE
        cases gs with
        | nil =>
          repeat' (first
            | with_reducible (first | refine Rd.p ?_ | refine w_alt ?_ ?_ | refine zE ?_ | refine zE0 ?_)
            | with_reducible (first | refine zI fun y hy => ?_ | refine zL ?_ | refine zS ?_ | refine zA fun _ => ?_ | refine zV ?_ | refine zC ?_ | refine zG ?_ | refine zU ?_ | refine zG0 ?_ | refine zU0 ?_ | refine zF ?_)
            | with_reducible (first | refine zX ?_ | refine zD fun _ => ?_ | refine zD0 ?_ | refine zN ?_ | refine zF0 ?_ | refine zX0 ?_ | refine z1 ?_ | refine z2 ?_ | refine z3 ?_ | refine z4 ?_ | refine z5 ?_ | refine z6 ?_ | refine z7 ?_ | refine z8 ?_ | refine y1 ?_ | refine y2 ?_ | refine y3 ?_ | refine y4 ?_ | refine y5 ?_ | refine y6 ?_ | refine y7 ?_ | refine y8 ?_ | refine Rt.p (fun _ => ?_) fun _ => ?_)
            | ((with_reducible apply w_ixM); (focus exact rfl); (focus exact rfl); case' hk => intro y hy) | ((with_reducible (first | apply w_val | apply q_ends)); (focus exact rfl)))
          exact ⟨_, ⟨⟨x :: xs, []⟩, rfl, hm, by dsimp only; omega, fun y hy => (hx y hy).2⟩, rfl⟩
        | cons y gs =>
          repeat' (first
            | with_reducible (first | refine Rd.p ?_ | refine w_alt ?_ ?_ | refine zE ?_ | refine zE0 ?_)
            | with_reducible (first | refine zI fun y hy => ?_ | refine zL ?_ | refine zS ?_ | refine zA fun _ => ?_ | refine zV ?_ | refine zC ?_ | refine zG ?_ | refine zU ?_ | refine zG0 ?_ | refine zU0 ?_ | refine zF ?_)
            | with_reducible (first | refine zX ?_ | refine zD fun _ => ?_ | refine zD0 ?_ | refine zN ?_ | refine zF0 ?_ | refine zX0 ?_ | refine z1 ?_ | refine z2 ?_ | refine z3 ?_ | refine z4 ?_ | refine z5 ?_ | refine z6 ?_ | refine z7 ?_ | refine z8 ?_ | refine y1 ?_ | refine y2 ?_ | refine y3 ?_ | refine y4 ?_ | refine y5 ?_ | refine y6 ?_ | refine y7 ?_ | refine y8 ?_ | refine Rt.p (fun _ => ?_) fun _ => ?_)
            | ((with_reducible apply w_ixM); (focus exact rfl); (focus exact rfl); case' hk => intro y hy) | ((with_reducible (first | apply w_val | apply q_ends)); (focus exact rfl)))
          exact ⟨_, ⟨⟨x :: xs, y :: gs⟩, rfl, hm, by dsimp only; omega, fun y hy => (hx y hy).2⟩, rfl⟩
theorem seasonOf3_c (g : Nat) (w : Int) (k : Int) (hk : 0 ≤ k ∧ k ≤ 9) : RawC Try.prog 42 [.ref 1000 g 0, .int .i64 k] (BoxS g w) (BoxR g fun av => ∃ s : Sea, av = seA s ∧ seaE s = 0 ∧ s.gs.length ≤ k ∧ ∀ y ∈ s.ss, y ≤ 3) := by
  refine RawC.sub (seasonO_c g w k hk) fun a σ' => ?_
  rintro ⟨w', ⟨s, rfl, h1, h2⟩, h3⟩
  refine ⟨seA s, ?_, w', ⟨s, rfl, h1, h2⟩, h3⟩
  refine Sub.agg (.cons (Sub.refl _) (.cons ?_ .nil))
  cases h : s.gs with
  | nil => exact Sub.nil
  | cons y r => exact Sub.refl _
theorem seasonOf_c (g : Nat) (w : Int) (k : Int) (hk : 0 ≤ k ∧ k ≤ 9) : RawC Try.prog 42 [.ref 1000 g 0, .int .i64 k] (BoxS g w) (BoxR g fun av => ∃ s : Sea, av = seA s ∧ seaE s = 0 ∧ s.gs.length ≤ k) :=
  (seasonOf3_c g w k hk).mono fun _ _ ⟨w', ⟨s, h1, h2, h3, _⟩, h4⟩ => ⟨w', ⟨s, h1, h2, h3⟩, h4⟩
end Go.Abs
