/- A part of the proofs of the laws of this seat: contracts of the functions that they reach, each proved of the program's form in Lean. No condition beyond those that each contract names. -/
import Derived.Test.YtmekfgjlcaonjaaB0
import Derived.Test.YtmekfgjlcaonjaaB20
import Derived.Test.YtmekfgjlcaonjaaB25
import Derived.Test.YtmekfgjlcaonjaaB1
set_option linter.unusedVariables false
set_option linter.unusedSimpArgs false
set_option maxRecDepth 20000
set_option maxHeartbeats 4000000
/-! ### The box's orders; copies of numbers -/
namespace Go.Abs
open Go.Proofs
section
variable {P : Program}
theorem w_apmN {K : (Nat → AV) → Sig → Prop} {e : Nat → AV} {σ : Sig} {x y : IOpd} {r : List IStep} {d i : Nat} {a : Int} {t : Tag} (hx : x.ev e = .nsl) (hy : y.ev e = .slc 1 [[.int .i64 a]] t)
    (hk : ∀ g, stepsW P r K (upd e d (.msl i g 1 1)) (newS σ i g ([a].map (AV.int .i64)))) : stepsW P (⟨some d, none, .apm 1 8 x y i⟩ :: r) K e σ := by
  refine w_det (p := True ∧ 1 = 1 ∧ (0 + 1) * 8 ≤ 140737488355328) (v := fun g => .msl i g (0 + 1) 1) (σ' := fun g => newS σ i g ([] ++ [[AV.int .i64 a]].flatten)) (fun g => ?_) ⟨trivial, rfl, by omega⟩ hk
  show (match baseM 1 σ (x.ev e), rowsO 1 (y.ev e) with
    | some (p, n, c, σ'), some (q, ys) => (match ys with
      | [] => some (p ∧ q, x.ev e, σ)
      | _ :: _ => some (p ∧ q ∧ (n + ys.length) * 8 ≤ 140737488355328, AV.msl i g (n + ys.length) 1, newS σ' i g (c ++ ys.flatten)))
    | _, _ => none) = _
  rw [hx, hy]; rfl
theorem w_apmI {K : (Nat → AV) → Sig → Prop} {e : Nat → AV} {σ : Sig} {x y : IOpd} {r : List IStep} {d i i' g' n : Nat} {a : Int} {xs : List Int} {t : Tag} (hx : x.ev e = .msl i' g' n 1) (hσ : σ i' = (g', .row (xs.map (AV.int .i64)))) (hn : xs.length = n) (hn2 : n ≤ 1000000) (hy : y.ev e = .slc 1 [[.int .i64 a]] t)
    (hk : ∀ g, stepsW P r K (upd e d (.msl i g (n + 1) 1)) (newS (upd σ i' (g', .dead)) i g ((xs ++ [a]).map (AV.int .i64)))) : stepsW P (⟨some d, none, .apm 1 8 x y i⟩ :: r) K e σ := by
  refine w_det (p := (g' = g' ∧ 1 = 1 ∧ (xs.map (AV.int .i64)).length = n * 1) ∧ 1 = 1 ∧ (n + 1) * 8 ≤ 140737488355328) (v := fun g => .msl i g (n + 1) 1) (σ' := fun g => newS (upd σ i' (g', .dead)) i g (xs.map (AV.int .i64) ++ [[AV.int .i64 a]].flatten)) (fun g => ?_) ⟨⟨rfl, rfl, by simp; omega⟩, rfl, by omega⟩ fun g => ?_
  · show (match baseM 1 σ (x.ev e), rowsO 1 (y.ev e) with
      | some (p, n, c, σ'), some (q, ys) => (match ys with
        | [] => some (p ∧ q, x.ev e, σ)
        | _ :: _ => some (p ∧ q ∧ (n + ys.length) * 8 ≤ 140737488355328, AV.msl i g (n + ys.length) 1, newS σ' i g (c ++ ys.flatten)))
      | _, _ => none) = _
    rw [hx, hy]
    simp only [baseM, hσ, rowsO]; rfl
  · have := hk g
    rw [List.map_append] at this
    exact this
end
theorem isPerm.of_perm {n : Nat} {l l' : List Int} (h : isPerm n l) (hp : List.Perm l' l) : isPerm n l' :=
  ⟨by rw [hp.length_eq, h.len], hp.nodup_iff.2 h.nd, fun x hx => h.bd x (hp.mem_iff.1 hx)⟩
theorem isPerm.snoc {n : Nat} {l : List Int} (h : isPerm n l) : isPerm (n + 1) (l ++ [(n : Int)]) := by
  refine ⟨by simp [h.len], ?_, fun x hx => ?_⟩
  · rw [List.nodup_append]
    exact ⟨h.nd, by simp, fun a ha b hb => by simp at hb; subst hb; have := h.bd a ha; omega⟩
  · rcases List.mem_append.1 hx with hx | hx
    · have := h.bd x hx; omega
    · simp at hx; omega
theorem swap_perm {l : List Int} {i k : Nat} (hi : i < l.length) (hk : k < l.length) : List.Perm ((l.set i (l.getD k 0)).set k (l.getD i 0)) l := by
  have e1 : l.getD k 0 = l[k] := by simp [hk]
  have e2 : l.getD i 0 = l[i] := by simp [hi]
  rw [e1, e2]
  exact List.set_set_perm hi hk
/-- A list that has all numbers is an order of them. -/
theorem isPerm.of_all : ∀ (n : Nat) (l : List Int), l.length = n → (∀ g : Nat, g < n → (g : Int) ∈ l) → isPerm n l
  | 0, l, hl, _ => by
    have : l = [] := List.length_eq_zero_iff.1 hl
    subst this
    exact ⟨rfl, List.nodup_nil, fun x hx => by cases hx⟩
  | n + 1, l, hl, h => by
    have hn := h n (by omega)
    have hp : List.Perm l ((n : Int) :: l.erase (n : Int)) := List.perm_cons_erase hn
    have he : (l.erase (n : Int)).length = n := by rw [List.length_erase_of_mem hn]; omega
    have ih := isPerm.of_all n (l.erase (n : Int)) he fun g hg => by
      rw [List.mem_erase_of_ne (by omega)]; exact h g (by omega)
    have h1 : isPerm (n + 1) ((n : Int) :: l.erase (n : Int)) := by
      refine ⟨by simp [he], ?_, fun x hx => ?_⟩
      · rw [List.nodup_cons]
        exact ⟨fun hc => by have := ih.bd _ hc; omega, ih.nd⟩
      · rcases List.mem_cons.1 hx with rfl | hx
        · omega
        · have := ih.bd x hx; omega
    exact h1.of_perm hp
/-- (*aloeswood/aloeswoodkit.Box).Order -/
def ir76 : IFn :=
  ⟨36, [(4, none)], (.seq (.ops [⟨(some 4), none, (.mov (.k .nsl))⟩])
  (.seq (.ops [⟨(some 5), none, (.mov (.k .nsl))⟩])
  (.seq (.seq (.ops [⟨(some 6), none, (.mov (.k (.int .i64 0)))⟩])
  (.blk 0 (.loop (.seq (.seq (.ops [⟨(some 8), none, (.mov (.t 6))⟩,
        ⟨(some 9), none, (.mov (.t 1))⟩,
        ⟨(some 10), none, (.bin .lss (.t 8) (.t 9))⟩])
      (.cnd (.t 10)
        .skip
        (.exit 0)))
      (.seq (.blk 1 (.seq (.ops [⟨(some 13), none, (.mov (.t 0))⟩,
          ⟨(some 14), none, (.mov (.t 6))⟩,
          ⟨(some 15), none, (.bin .add (.t 14) (.k (.int .i64 1)))⟩,
          ⟨(some 16), none, (.callF 20 [(.t 13), (.t 15)])⟩,
          ⟨(some 7), none, (.mov (.t 16))⟩])
        (.seq (.ops [⟨(some 17), none, (.mov (.t 5))⟩,
          ⟨(some 18), none, (.mov (.t 6))⟩,
          ⟨(some 19), none, (.bsl 1 [[(.int .i64 0)]] [(0, (.t 18))])⟩,
          ⟨(some 20), none, (.apm 1 8 (.t 17) (.t 19) 5)⟩,
          ⟨(some 5), none, (.mov (.t 20))⟩])
        (.ops [⟨(some 21), none, (.mov (.t 5))⟩,
          ⟨(some 22), none, (.mov (.t 6))⟩,
          ⟨(some 23), none, (.mov (.t 5))⟩,
          ⟨(some 24), none, (.mov (.t 7))⟩,
          ⟨(some 25), none, (.mov (.t 5))⟩,
          ⟨(some 26), none, (.mov (.t 7))⟩,
          ⟨(some 27), none, (.ixA 1 (.t 25) (.t 26))⟩,
          ⟨(some 28), none, (.ld 1 false (.t 27))⟩,
          ⟨(some 29), none, (.mov (.t 5))⟩,
          ⟨(some 30), none, (.mov (.t 6))⟩,
          ⟨(some 31), none, (.ixA 1 (.t 29) (.t 30))⟩,
          ⟨(some 32), none, (.ld 1 false (.t 31))⟩,
          ⟨(some 33), none, (.ixA 1 (.t 21) (.t 22))⟩,
          ⟨none, none, (.st 1 (.t 33) (.t 28))⟩,
          ⟨(some 34), none, (.ixA 1 (.t 23) (.t 24))⟩,
          ⟨none, none, (.st 1 (.t 34) (.t 32))⟩]))))
      (.ops [⟨(some 11), none, (.mov (.t 6))⟩,
        ⟨(some 12), none, (.bin .add (.t 11) (.k (.int .i64 1)))⟩,
        ⟨(some 6), none, (.mov (.t 12))⟩]))))))
  (.seq (.seq (.frz (.t 5))
  (.ops [⟨(some 35), none, (.mov (.t 5))⟩,
    ⟨(some 4), none, (.mov (.t 35))⟩]))
  .ret))))⟩
def hint76 (P : Program) : Hint := { site := [(20, 5)], nils := [], frz := [(35, 5)], mve := [], wr := [20] }

/-- aloeswood/aloeswoodkit.Ints -/
def ir58 : IFn :=
  ⟨6, [(2, none)], (.seq (.ops [⟨(some 2), none, (.nil 1 2)⟩])
  (.seq (.ops [⟨(some 3), none, (.bsl 1 [] [])⟩,
    ⟨(some 4), none, (.mov (.t 0))⟩,
    ⟨(some 5), none, (.app 1 8 (.t 3) (.t 4) 2)⟩,
    ⟨(some 2), none, (.mov (.t 5))⟩])
  .ret))⟩
def hint58 (P : Program) : Hint := { site := [(5, 2)], nils := [(2, 1)], frz := [], mve := [], wr := [] }

theorem ints_c (l : List Int) (hl : l.length < 2 ^ 40) : Fn0 Try.prog 58 [.slc 1 (iR l) .non] (fun v => v = .slc 1 (iR l) .non) := by
  have h1 : (iR l).length = l.length := by simp
  refine RawC.walk (H := hint58 Try.prog) ir58 Try.func58 rfl rfl rfl ?_
  unfold ir58
  repeat' (first
    | with_reducible (first | refine Rd.p ?_ | refine w_alt ?_ ?_ | refine zE ?_ | refine zE0 ?_)
    | with_reducible (first | refine zI fun y hy => ?_ | refine zL ?_ | refine zS ?_ | refine zA fun _ => ?_ | refine zV ?_ | refine zC ?_ | refine zG ?_ | refine zU ?_ | refine zG0 ?_ | refine zU0 ?_ | refine zF ?_)
    | with_reducible (first | refine zX ?_ | refine zD fun _ => ?_ | refine zD0 ?_ | refine zN ?_ | refine zF0 ?_ | refine zX0 ?_ | refine z1 ?_ | refine z2 ?_ | refine z3 ?_ | refine z4 ?_ | refine z5 ?_ | refine z6 ?_ | refine z7 ?_ | refine z8 ?_ | refine y1 ?_ | refine y2 ?_ | refine y3 ?_ | refine y4 ?_ | refine y5 ?_ | refine y6 ?_ | refine y7 ?_ | refine y8 ?_ | refine Rt.p (fun _ => ?_) fun _ => ?_)
    | ((with_reducible apply w_ixM); (focus exact rfl); (focus exact rfl); case' hk => intro y hy) | ((with_reducible (first | apply w_val | apply q_ends)); (focus exact rfl)))
  rfl
def ordV (xs : List Int) (g : Nat) : AV := match xs with
  | [] => .nsl
  | _ :: _ => .msl 5 g xs.length 1
def ordS (xs : List Int) (g : Nat) : List (Nat × (Nat × Res)) := match xs with
  | [] => []
  | _ :: _ => [(5, (g, .row (xs.map (AV.int .i64))))]
theorem order_c (g : Nat) (w : Int) (n : Nat) (hn : 1 ≤ n ∧ n ≤ 1000) : RawC Try.prog 76 [.ref 1000 g 0, .int .i64 n] (BoxS g w) (BoxR g fun av => ∃ l, av = .slc 1 (iR l) .non ∧ isPerm n l) := by
  refine RawC.walk (H := hint76 Try.prog) ir76 Try.func76 rfl rfl rfl ?_
  unfold ir76
  repeat' (first
    | with_reducible (first | refine Rd.p ?_ | refine w_alt ?_ ?_ | refine zE ?_ | refine zE0 ?_)
    | with_reducible (first | refine zI fun y hy => ?_ | refine zL ?_ | refine zS ?_ | refine zA fun _ => ?_ | refine zV ?_ | refine zC ?_ | refine zG ?_ | refine zU ?_ | refine zG0 ?_ | refine zU0 ?_ | refine zF ?_)
    | with_reducible (first | refine zX ?_ | refine zD fun _ => ?_ | refine zD0 ?_ | refine zN ?_ | refine zF0 ?_ | refine zX0 ?_ | refine z1 ?_ | refine z2 ?_ | refine z3 ?_ | refine z4 ?_ | refine z5 ?_ | refine z6 ?_ | refine z7 ?_ | refine z8 ?_ | refine y1 ?_ | refine y2 ?_ | refine y3 ?_ | refine y4 ?_ | refine y5 ?_ | refine y6 ?_ | refine y7 ?_ | refine y8 ?_ | refine Rt.p (fun _ => ?_) fun _ => ?_)
    | ((with_reducible apply w_ixM); (focus exact rfl); (focus exact rfl); case' hk => intro y hy) | ((with_reducible (first | apply w_val | apply q_ends)); (focus exact rfl)))
  refine w_loopK [0, 1] [] (fun x : List Int × Nat × Int => x.1.length ≤ n ∧ isPerm x.1.length x.1) (fun x => n - x.1.length) (fun x => [(6, .int .i64 x.1.length), (5, ordV x.1 x.2.1)])
    (fun x => [(1000, (g, .row [.int .u64 x.2.2]))] ++ ordS x.1 x.2.1) ([], 0, _) ⟨Nat.zero_le _, ⟨rfl, List.nodup_nil, fun x hx => by cases hx⟩⟩ ⟨rfl, rfl, trivial⟩ (by exact ⟨rfl, trivial⟩) ?_
  rintro ⟨xs, g5, w⟩ ⟨hl, hp⟩ e σ
  dsimp only at hl hp ⊢
  by_cases hlt : xs.length < n
  case neg =>
    cases xs with
    | nil => exfalso; simp at hlt; omega
    | cons x0 xs =>
      repeat' (first
        | with_reducible (first | refine Rd.p ?_ | refine w_alt ?_ ?_ | refine zE ?_ | refine zE0 ?_)
        | with_reducible (first | refine zI fun y hy => ?_ | refine zL ?_ | refine zS ?_ | refine zA fun _ => ?_ | refine zV ?_ | refine zC ?_ | refine zG ?_ | refine zU ?_ | refine zG0 ?_ | refine zU0 ?_ | refine zF ?_)
        | (refine w_frzI rfl rfl rfl ?_)
        | with_reducible (first | refine zX ?_ | refine zD fun _ => ?_ | refine zD0 ?_ | refine zN ?_ | refine zF0 ?_ | refine zX0 ?_ | refine z1 ?_ | refine z2 ?_ | refine z3 ?_ | refine z4 ?_ | refine z5 ?_ | refine z6 ?_ | refine z7 ?_ | refine z8 ?_ | refine y1 ?_ | refine y2 ?_ | refine y3 ?_ | refine y4 ?_ | refine y5 ?_ | refine y6 ?_ | refine y7 ?_ | refine y8 ?_ | refine Rt.p (fun _ => ?_) fun _ => ?_)
        | ((with_reducible apply w_ixM); (focus exact rfl); (focus exact rfl); case' hk => intro y hy) | ((with_reducible (first | apply w_val | apply q_ends)); (focus exact rfl)))
      refine ⟨_, ⟨x0 :: xs, rfl, ?_⟩, rfl⟩
      have : (x0 :: xs).length = n := by omega
      rw [← this]; exact hp
  have hps := hp.snoc
  have hsl : (xs ++ [(xs.length : Int)]).length = xs.length + 1 := by simp
  cases xs with
  | nil =>
    have hz : ([] : List Int).length = 0 := rfl
    repeat' (first
      | with_reducible (first | refine Rd.p ?_ | refine w_alt ?_ ?_ | refine zE ?_ | refine zE0 ?_)
      | (first | (refine w_apmN rfl rfl ?_; intro _) | refine w_ldI rfl rfl (by exact Nat.le_of_ble_eq_true rfl) ?_ | refine w_stI rfl rfl rfl (by exact Nat.le_of_ble_eq_true rfl) ?_)
      | with_reducible (first | refine zI fun y hy => ?_ | refine zL ?_ | refine zS ?_ | refine zA fun _ => ?_ | refine zV ?_ | refine zC ?_ | refine zG ?_ | refine zU ?_ | refine zG0 ?_ | refine zU0 ?_ | refine zF ?_)
      | ((with_reducible refine acall_id ?_); refine ACall.box (up_c _ _ _ (by omega)) rfl rfl rfl ?_; rintro _ _ ⟨k, rfl, hk1, hk2⟩)
      | (have hk0 : k = 0 := (by omega); subst hk0; clear hk1 hk2)
      | with_reducible (first | refine zX ?_ | refine zD fun _ => ?_ | refine zD0 ?_ | refine zN ?_ | refine zF0 ?_ | refine zX0 ?_ | refine z1 ?_ | refine z2 ?_ | refine z3 ?_ | refine z4 ?_ | refine z5 ?_ | refine z6 ?_ | refine z7 ?_ | refine z8 ?_ | refine y1 ?_ | refine y2 ?_ | refine y3 ?_ | refine y4 ?_ | refine y5 ?_ | refine y6 ?_ | refine y7 ?_ | refine y8 ?_ | refine Rt.p (fun _ => ?_) fun _ => ?_)
      | ((with_reducible apply w_ixM); (focus exact rfl); (focus exact rfl); case' hk => intro y hy) | ((with_reducible (first | apply w_val | apply q_ends)); (focus exact rfl)))
    refine q_loop ([0], _, _) ?_ ?_ (by repeat' (first | exact slots_nil | apply slots_cons | rfl | (rw [map_snoc]; rfl) | (rw [len_snoc]; rfl) | (rw [hS]; rfl) | (rw [hS, map_snoc]; rfl) | (refine int_eq ?_; (try dsimp only); omega) | (refine congrArg AV.bool ?_; simp_all; done))) (by exact ⟨rfl, rfl, trivial⟩) (by repeat' (first | exact kept_nil | apply kept_cons | rfl)) (by repeat' (first | exact kept_nil | apply kept_cons | rfl))
    · exact ⟨by simp; omega, hps⟩
    · simp; omega
  | cons x0 xs =>
    have hlx : (x0 :: xs).length = xs.length + 1 := rfl
    have hq : ∀ k : Nat, k < xs.length + 2 → isPerm (xs.length + 2) (((x0 :: xs ++ [((x0 :: xs).length : Int)]).set ((((x0 :: xs).length : Nat) : Int).toNat * 1) ((x0 :: xs ++ [((x0 :: xs).length : Int)]).getD (k * 1) 0)).set (k * 1) ((x0 :: xs ++ [((x0 :: xs).length : Int)]).getD ((((x0 :: xs).length : Nat) : Int).toNat * 1) 0)) := by
      intro k hk
      have e1 : (((x0 :: xs).length : Nat) : Int).toNat * 1 = xs.length + 1 := by simp
      rw [e1, Nat.mul_one]
      exact hps.of_perm (swap_perm (by simp) (by simp; omega))
    repeat' (first
      | with_reducible (first | refine Rd.p ?_ | refine w_alt ?_ ?_ | refine zE ?_ | refine zE0 ?_)
      | (first | (refine w_apmI rfl rfl rfl (by omega) rfl ?_; intro g') | refine w_ldI rfl rfl (by first | omega | (simp; omega)) ?_ | refine w_stI rfl rfl rfl (by first | omega | (simp; omega)) ?_)
      | with_reducible (first | refine zI fun y hy => ?_ | refine zL ?_ | refine zS ?_ | refine zA fun _ => ?_ | refine zV ?_ | refine zC ?_ | refine zG ?_ | refine zU ?_ | refine zG0 ?_ | refine zU0 ?_ | refine zF ?_)
      | ((with_reducible refine acall_id ?_); refine ACall.box (up_c _ _ _ (by omega)) rfl rfl rfl ?_; rintro _ _ ⟨k, rfl, hk1, hk2⟩)
      | with_reducible (first | refine zX ?_ | refine zD fun _ => ?_ | refine zD0 ?_ | refine zN ?_ | refine zF0 ?_ | refine zX0 ?_ | refine z1 ?_ | refine z2 ?_ | refine z3 ?_ | refine z4 ?_ | refine z5 ?_ | refine z6 ?_ | refine z7 ?_ | refine z8 ?_ | refine y1 ?_ | refine y2 ?_ | refine y3 ?_ | refine y4 ?_ | refine y5 ?_ | refine y6 ?_ | refine y7 ?_ | refine y8 ?_ | refine Rt.p (fun _ => ?_) fun _ => ?_)
      | ((with_reducible apply w_ixM); (focus exact rfl); (focus exact rfl); case' hk => intro y hy) | ((with_reducible (first | apply w_val | apply q_ends)); (focus exact rfl)))
    have hq2 := hq k.toNat (by omega)
    generalize hnl : ((x0 :: xs ++ [((x0 :: xs).length : Int)]).set ((((x0 :: xs).length : Nat) : Int).toNat * 1) ((x0 :: xs ++ [((x0 :: xs).length : Int)]).getD (k.toNat * 1) 0)).set (k.toNat * 1) ((x0 :: xs ++ [((x0 :: xs).length : Int)]).getD ((((x0 :: xs).length : Nat) : Int).toNat * 1) 0) = nl at hq2
    cases nl with
    | nil => have := hq2.len; simp at this
    | cons y0 ys =>
      have hyl : (y0 :: ys).length = (x0 :: xs).length + 1 := by rw [hq2.len]; rfl
      refine q_loop (y0 :: ys, g', _) ?_ ?_ (by exact ⟨int_eq (by dsimp only; rw [hyl]; rfl), (congrArg (fun n => AV.msl 5 g' n 1) hyl.symm), trivial⟩) (by exact ⟨rfl, rfl, trivial⟩) (by repeat' (first | exact kept_nil | apply kept_cons | rfl)) (by repeat' (first | exact kept_nil | apply kept_cons | rfl))
      · refine ⟨by dsimp only; omega, ?_⟩
        dsimp only
        rw [hyl, hlx]; exact hq2
      · dsimp only; omega
end Go.Abs
