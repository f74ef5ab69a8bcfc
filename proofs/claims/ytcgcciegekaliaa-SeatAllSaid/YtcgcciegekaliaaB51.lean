/- A part of the proofs of the laws of this seat: contracts of the functions that they reach, each proved of the program's form in Lean. No condition beyond those that each contract names. -/
import Derived.Test.YtcgcciegekaliaaB0
import Derived.Test.YtcgcciegekaliaaB1
import Derived.Test.YtcgcciegekaliaaB7
import Derived.Test.YtcgcciegekaliaaB8
import Derived.Test.YtcgcciegekaliaaB18
import Derived.Test.YtcgcciegekaliaaB19a
import Derived.Test.YtcgcciegekaliaaB32
import Derived.Test.YtcgcciegekaliaaB17
set_option linter.unusedVariables false
set_option linter.unusedSimpArgs false
set_option maxRecDepth 20000
set_option maxHeartbeats 4000000
/-! ### Parties whose rules are written -/
namespace Go.Abs
open Go.Proofs
section
variable {P : Program} {α : Type} {row : α → List AV} {sz : Nat}
/-- append to a slice that is written. -/
theorem w_apmMR {K : (Nat → AV) → Sig → Prop} {e : Nat → AV} {σ : Sig} {x y : IOpd} {r : List IStep} {d i g bytes n : Nat} {xs : List α} {x0 : α} {t : Tag} (hR : FlatR row sz) (hn : xs.length = n) (hx : x.ev e = .msl i g n sz) (hσ : σ i = (g, .row (xs.map row).flatten)) (hy : y.ev e = .slc sz [row x0] t) (hb : (n + 1) * bytes ≤ 140737488355328)
    (hk : ∀ g', stepsW P r K (upd e d (.msl i g' (xs ++ [x0]).length sz)) (upd (upd σ i (g, .dead)) i (g', .row ((xs ++ [x0]).map row).flatten))) : stepsW P (⟨some d, none, .apm sz bytes x y i⟩ :: r) K e σ := by
  subst hn
  have hl := hR.flat_len xs
  have e1 : ((xs ++ [x0]).map row).flatten = (xs.map row).flatten ++ [row x0].flatten := by simp
  have e2 : (xs ++ [x0]).length = xs.length + 1 := by simp
  refine w_det (p := (g = g ∧ sz = sz ∧ (xs.map row).flatten.length = xs.length * sz) ∧ sz = sz ∧ (xs.length + [row x0].length) * bytes ≤ 140737488355328) (v := fun g' => .msl i g' (xs ++ [x0]).length sz) (σ' := fun g' => upd (upd σ i (g, .dead)) i (g', .row ((xs ++ [x0]).map row).flatten)) (fun g' => ?_) ⟨⟨rfl, rfl, hl⟩, rfl, hb⟩ hk
  show (match baseM sz σ (x.ev e), rowsO sz (y.ev e) with
    | some (p, n, c, σ'), some (q, ys) => (match ys with
      | [] => some (p ∧ q, x.ev e, σ)
      | _ :: _ => some (p ∧ q ∧ (n + ys.length) * bytes ≤ 140737488355328, AV.msl i g' (n + ys.length) sz, newS σ' i g' (c ++ ys.flatten)))
    | _, _ => none) = _
  rw [hx, hy, e1, e2]
  simp only [baseM, hσ, rowsO]; rfl
theorem w_apmNR {K : (Nat → AV) → Sig → Prop} {e : Nat → AV} {σ : Sig} {x y : IOpd} {r : List IStep} {d i bytes : Nat} {x0 : α} {t : Tag} (hx : x.ev e = .nsl) (hy : y.ev e = .slc sz [row x0] t) (hb : 1 * bytes ≤ 140737488355328)
    (hk : ∀ g', stepsW P r K (upd e d (.msl i g' [x0].length sz)) (newS σ i g' ([x0].map row).flatten)) : stepsW P (⟨some d, none, .apm sz bytes x y i⟩ :: r) K e σ := by
  refine w_det (p := True ∧ sz = sz ∧ (0 + [row x0].length) * bytes ≤ 140737488355328) (v := fun g' => .msl i g' [x0].length sz) (σ' := fun g' => newS σ i g' ([x0].map row).flatten) (fun g' => ?_) ⟨trivial, rfl, hb⟩ hk
  show (match baseM sz σ (x.ev e), rowsO sz (y.ev e) with
    | some (p, n, c, σ'), some (q, ys) => (match ys with
      | [] => some (p ∧ q, x.ev e, σ)
      | _ :: _ => some (p ∧ q ∧ (n + ys.length) * bytes ≤ 140737488355328, AV.msl i g' (n + ys.length) sz, newS σ' i g' (c ++ ys.flatten)))
    | _, _ => none) = _
  rw [hx, hy]
  simp only [baseM, rowsO]; rfl
theorem frzE_ref {i g j h o : Nat} {c : List AV} {e : Nat → AV} {t : Nat} (he : e t = .ref j h o) (hj : j ≠ i) : frzE i g c e t = .ref j h o := by simp [frzE, he, frzA, hj]
theorem frzS_keep {i g j h : Nat} {c d : List AV} {σ : Sig} (hs : σ j = (h, .row d)) (hj : j ≠ i) (hd : frzL i g c d = d) : frzS i g c σ j = (h, .row d) := by simp [frzS, hj, hs, frzR, hd]
/-- A slice becomes persistent; F, S: what is kept in mind. -/
theorem w_frzG {Q : Post} {e : Nat → AV} {σ : Sig} {b : IR} {t i g n : Nat} {c : List AV} (F : List (Nat × AV)) (S : List (Nat × (Nat × Res))) (h1 : e t = .msl i g n sz) (hσ : σ i = (g, .row c)) (hc : c.all AV.scal = true) (hF : slots F (frzE i g c e)) (hS : slots S (frzS i g c σ))
    (hk : ∀ e' σ', awp P b Q (updL F e') (updL S σ')) : awp P (.seq (.frz (.t t)) b) Q e σ := by
  show frzW (e t) e σ (seqQ (awp P b Q) Q .nor)
  rw [h1]
  show (match σ i with | (g', .row c) => g = g' ∧ c.all AV.scal = true ∧ seqQ (awp P b Q) Q .nor (frzE i g c e) (frzS i g c σ) | _ => False)
  rw [hσ]
  refine ⟨rfl, hc, ?_⟩
  have := hk (frzE i g c e) (frzS i g c σ)
  rw [updL_slots hF, updL_slots hS] at this
  exact this
theorem w_frzN {Q : Post} {e : Nat → AV} {σ : Sig} {b : IR} {t : Nat} (h1 : e t = .nsl) (hk : awp P b Q e σ) : awp P (.seq (.frz (.t t)) b) Q e σ := by
  show frzW (e t) e σ (seqQ (awp P b Q) Q .nor)
  rw [h1]; exact hk
/-- The slice's place in a struct. -/
theorem frzS_at {i g j h n : Nat} {d : AV} {xs : List α} {σ : Sig} (hR : FlatR row sz) (hn : xs.length = n) (hs : σ j = (h, .row [d, .msl i g n sz])) (hj : j ≠ i) (hd : frzL i g (xs.map row).flatten [d] = [d]) : frzS i g (xs.map row).flatten σ j = (h, .row [d, .slc sz (xs.map row) .non]) := by
  subst hn
  have hl := hR.flat_len xs
  simp only [frzL, List.cons.injEq, and_true] at hd
  simp [frzS, hj, hs, frzR, frzL, frzA, hl, hR.chunk, hd]
end
/-- aloeswood/aloeswoodkit.PartyOf -/
def ir29v : IFn :=
  ⟨34, [(6, some (2, true))], (.seq (.ops [⟨(some 6), none, (.new [.nsl, .nsl])⟩])
  (.seq (.ops [⟨(some 9), none, (.mov (.t 0))⟩,
    ⟨(some 10), none, (.mov (.t 0))⟩,
    ⟨(some 11), none, (.mov (.t 1))⟩,
    ⟨(some 12), none, (.callF 20 [(.t 10), (.k (.int .i64 1)), (.t 11)])⟩,
    ⟨(some 13), none, (.callF 18 [(.t 9), (.t 12)])⟩,
    ⟨(some 14), none, (.bld [.nsl, .nsl] [(0, 1, (.t 13))])⟩,
    ⟨(some 7), none, (.new [.nsl, .nsl])⟩,
    ⟨none, none, (.st 2 (.t 7) (.t 14))⟩])
  (.seq (.seq (.ops [⟨(some 15), none, (.mov (.t 0))⟩,
    ⟨(some 16), none, (.mov (.t 2))⟩,
    ⟨(some 17), none, (.bin .add (.t 16) (.k (.int .i64 1)))⟩,
    ⟨(some 18), none, (.callF 19 [(.t 15), (.t 17)])⟩,
    ⟨(some 8), none, (.mov (.t 18))⟩])
  (.blk 0 (.loop (.seq (.seq (.ops [⟨(some 19), none, (.mov (.t 8))⟩,
        ⟨(some 20), none, (.bin .gtr (.t 19) (.k (.int .i64 0)))⟩])
      (.cnd (.t 20)
        .skip
        (.exit 0)))
      (.seq (.blk 1 (.ops [⟨(some 23), none, (.flA 1 (.t 7))⟩,
          ⟨(some 24), none, (.ld 1 false (.t 23))⟩,
          ⟨(some 25), none, (.mov (.t 0))⟩,
          ⟨(some 26), none, (.flA 0 (.t 7))⟩,
          ⟨(some 27), none, (.ld 1 false (.t 26))⟩,
          ⟨(some 28), none, (.len false (.t 27))⟩,
          ⟨(some 29), none, (.callF 31 [(.t 25), (.t 28)])⟩,
          ⟨none, none, (.chk 1 false (.t 23) 24)⟩,
          ⟨(some 30), none, (.bsl 4 [[(.int .i64 0), (.int .i64 0), (.int .i64 0), (.int .i64 0)]] [(0, (.t 29))])⟩,
          ⟨(some 31), none, (.apm 4 32 (.t 24) (.t 30) 31)⟩,
          ⟨(some 32), none, (.flA 1 (.t 7))⟩,
          ⟨none, none, (.st 1 (.t 32) (.t 31))⟩]))
      (.ops [⟨(some 21), none, (.mov (.t 8))⟩,
        ⟨(some 22), none, (.bin .sub (.t 21) (.k (.int .i64 1)))⟩,
        ⟨(some 8), none, (.mov (.t 22))⟩]))))))
  (.seq (.ops [⟨(some 33), none, (.ld 2 true (.t 7))⟩,
    ⟨none, none, (.st 2 (.t 6) (.t 33))⟩])
  .ret))))⟩
def hint29v (P : Program) : Hint := { site := [], nils := [], frz := [], mve := [], wr := [31] }

/-- aloeswood/aloeswoodlaw08.strict -/
def ir52 : IFn :=
  ⟨23, [(2, some (2, true))], (.seq (.ops [⟨(some 2), none, (.new [.nsl, .nsl])⟩])
  (.seq (.ops [⟨(some 5), none, (.mov (.t 0))⟩,
    ⟨(some 6), none, (.callF 29 [(.t 5), (.k (.int .i64 5)), (.k (.int .i64 10))])⟩,
    ⟨(some 3), none, (.new [.nsl, .nsl])⟩,
    ⟨none, none, (.st 2 (.t 3) (.t 6))⟩])
  (.seq (.seq (.ops [⟨(some 4), none, (.mov (.k (.int .i64 0)))⟩])
  (.blk 0 (.loop (.seq (.seq (.ops [⟨(some 7), none, (.mov (.t 4))⟩,
        ⟨(some 8), none, (.flA 1 (.t 3))⟩,
        ⟨(some 9), none, (.ld 1 false (.t 8))⟩,
        ⟨(some 10), none, (.len false (.t 9))⟩,
        ⟨(some 11), none, (.bin .lss (.t 7) (.t 10))⟩])
      (.cnd (.t 11)
        .skip
        (.exit 0)))
      (.seq (.blk 1 (.seq (.ops [⟨(some 14), none, (.mov (.t 0))⟩,
          ⟨(some 15), none, (.callF 65 [(.t 14), (.k (.int .i64 4))])⟩,
          ⟨(some 16), none, (.not (.t 15))⟩])
        (.cnd (.t 16)
          (.ops [⟨(some 17), none, (.flA 1 (.t 3))⟩,
            ⟨(some 18), none, (.ld 1 false (.t 17))⟩,
            ⟨(some 19), none, (.mov (.t 4))⟩,
            ⟨(some 20), none, (.ixA 4 (.t 18) (.t 19))⟩,
            ⟨(some 21), none, (.flA 3 (.t 20))⟩,
            ⟨none, none, (.st 1 (.t 21) (.k (.int .i64 0)))⟩])
          .skip)))
      (.ops [⟨(some 12), none, (.mov (.t 4))⟩,
        ⟨(some 13), none, (.bin .add (.t 12) (.k (.int .i64 1)))⟩,
        ⟨(some 4), none, (.mov (.t 13))⟩]))))))
  (.seq (.seq (.frz (.t 9))
  (.ops [⟨(some 22), none, (.ld 2 true (.t 3))⟩,
    ⟨none, none, (.st 2 (.t 2) (.t 22))⟩]))
  .ret))))⟩
def hint52 (P : Program) : Hint := { site := [], nils := [], frz := [(22, 9)], mve := [], wr := [] }

def rulesW (rs : List Rule) (g : Nat) : AV := match rs with
  | [] => .nsl
  | _ :: _ => .msl 31 g rs.length 4
def rulesR (rs : List Rule) (g : Nat) : Nat × Res := match rs with
  | [] => (0, .dead)
  | _ :: _ => (g, .row (rs.map Rule.row).flatten)
theorem partyOfW_c (g : Nat) (w : Int) (guests rules : Nat) (hg : 1 ≤ guests ∧ guests ≤ 7) (hr : rules ≤ 12) : RawC Try.prog 29 [.ref 1000 g 0, .int .i64 guests, .int .i64 rules] (BoxS g w)
    (SR (fun (x : List Guest × List Rule × Nat × Int) v => v = .agg [.slc 5 (gR x.1) .non, rulesW x.2.1 x.2.2.1] ∧ madeP x.1 x.2.1 guests rules) (fun x => [(1000, (g, .row [.int .u64 x.2.2.2])), (31, rulesR x.2.1 x.2.2.1)])) := by
  refine RawC.walk (H := hint29v Try.prog) ir29v Try.func29 rfl rfl rfl ?_
  unfold ir29v
  repeat' (first
    | with_reducible (first | refine Rd.p ?_ | refine zE ?_ | refine zE0 ?_)
    | with_reducible (first | refine zI fun y hy => ?_ | refine zL ?_ | refine zS ?_ | refine zA fun _ => ?_ | refine zV ?_ | refine zC ?_ | refine zG ?_ | refine zU ?_ | refine zG0 ?_ | refine zU0 ?_ | refine zF ?_)
    | ((with_reducible refine acall_id ?_); refine ACall.box (any_c _ _ _ _ (by omega) (by omega) (by omega) (by omega)) rfl rfl rfl ?_; rintro _ _ ⟨k, rfl, hk1, hk2⟩)
    | ((with_reducible refine acall_id ?_); refine ACall.box (guestsOf_c _ _ _ (by omega)) rfl rfl rfl ?_; rintro _ _ ⟨gs, rfl, hgs, hgl⟩)
    | ((with_reducible refine acall_id ?_); refine ACall.box (upp_c _ _ _ (by omega) (by omega)) rfl rfl rfl ?_; rintro _ _ ⟨m, rfl, hm1, hm2⟩)
    | with_reducible (first | refine zX ?_ | refine zD fun _ => ?_ | refine zD0 ?_ | refine zN ?_ | refine zF0 ?_ | refine zX0 ?_ | refine z1 ?_ | refine z2 ?_ | refine z3 ?_ | refine z4 ?_ | refine z5 ?_ | refine z6 ?_ | refine z7 ?_ | refine z8 ?_ | refine y1 ?_ | refine y2 ?_ | refine y3 ?_ | refine y4 ?_ | refine y5 ?_ | refine y6 ?_ | refine y7 ?_ | refine y8 ?_ | refine Rt.p (fun _ => ?_) fun _ => ?_)
    | ((with_reducible apply w_ixM); (focus exact rfl); (focus exact rfl); case' hk => intro y hy) | ((with_reducible (first | apply w_val | apply q_ends)); (focus exact rfl)))
  rename_i g6 _ _ g7 _
  refine w_loopK [0, 6, 7] [6] (fun x : List Rule × Int × Nat × Int => 0 ≤ x.2.1 ∧ (x.1.length : Int) + x.2.1 ≤ rules ∧ ∀ r ∈ x.1, rErr r gs.length = 0) (fun x => x.2.1.toNat) (fun x => [(8, .int .i64 x.2.1)])
    (fun x => [(7, (g7, .row [.slc 5 (gR gs) .non, rulesW x.1 x.2.2.1])), (1000, (g, .row [.int .u64 x.2.2.2])), (31, rulesR x.1 x.2.2.1)]) ([], m, 0, _) ⟨hm1, by simp; omega, fun r h => by cases h⟩ ⟨rfl, trivial⟩ (by exact ⟨rfl, rfl, rfl, trivial⟩) ?_
  rintro ⟨rs, i, g31, w⟩ ⟨hi0, hil, hrs⟩ e σ
  dsimp only at hi0 hil hrs ⊢
  by_cases hi : 0 < i
  case neg =>
    cases rs with
    | nil =>
      repeat' (first
        | with_reducible (first | refine Rd.p ?_ | refine zE ?_ | refine zE0 ?_)
        | with_reducible (first | refine zI fun y hy => ?_ | refine zL ?_ | refine zS ?_ | refine zA fun _ => ?_ | refine zV ?_ | refine zC ?_ | refine zG ?_ | refine zU ?_ | refine zG0 ?_ | refine zU0 ?_ | refine zF ?_)
        | with_reducible (first | refine zX ?_ | refine zD fun _ => ?_ | refine zD0 ?_ | refine zN ?_ | refine zF0 ?_ | refine zX0 ?_ | refine z1 ?_ | refine z2 ?_ | refine z3 ?_ | refine z4 ?_ | refine z5 ?_ | refine z6 ?_ | refine z7 ?_ | refine z8 ?_ | refine y1 ?_ | refine y2 ?_ | refine y3 ?_ | refine y4 ?_ | refine y5 ?_ | refine y6 ?_ | refine y7 ?_ | refine y8 ?_ | refine Rt.p (fun _ => ?_) fun _ => ?_)
        | ((with_reducible apply w_ixM); (focus exact rfl); (focus exact rfl); case' hk => intro y hy) | ((with_reducible (first | apply w_val | apply q_ends)); (focus exact rfl)))
      exact ⟨(gs, [], g31, _), ⟨rfl, (show madeP gs [] guests rules from ⟨hgs, by omega, by omega, by simp, hrs⟩)⟩, rfl, rfl, trivial⟩
    | cons r0 rs =>
      repeat' (first
        | with_reducible (first | refine Rd.p ?_ | refine zE ?_ | refine zE0 ?_)
        | with_reducible (first | refine zI fun y hy => ?_ | refine zL ?_ | refine zS ?_ | refine zA fun _ => ?_ | refine zV ?_ | refine zC ?_ | refine zG ?_ | refine zU ?_ | refine zG0 ?_ | refine zU0 ?_ | refine zF ?_)
        | with_reducible (first | refine zX ?_ | refine zD fun _ => ?_ | refine zD0 ?_ | refine zN ?_ | refine zF0 ?_ | refine zX0 ?_ | refine z1 ?_ | refine z2 ?_ | refine z3 ?_ | refine z4 ?_ | refine z5 ?_ | refine z6 ?_ | refine z7 ?_ | refine z8 ?_ | refine y1 ?_ | refine y2 ?_ | refine y3 ?_ | refine y4 ?_ | refine y5 ?_ | refine y6 ?_ | refine y7 ?_ | refine y8 ?_ | refine Rt.p (fun _ => ?_) fun _ => ?_)
        | ((with_reducible apply w_ixM); (focus exact rfl); (focus exact rfl); case' hk => intro y hy) | ((with_reducible (first | apply w_val | apply q_ends)); (focus exact rfl)))
      exact ⟨(gs, r0 :: rs, g31, _), ⟨rfl, (show madeP gs (r0 :: rs) guests rules from ⟨hgs, by omega, by omega, by omega, hrs⟩)⟩, rfl, rfl, trivial⟩
  have hnew : ∀ r : Rule, rErr r gs.length = 0 → ∀ r' ∈ rs ++ [r], rErr r' gs.length = 0 := by
    intro r hr r' h'
    rcases List.mem_append.1 h' with h' | h'
    · exact hrs r' h'
    · simp at h'; subst h'; exact hr
  cases rs with
  | nil =>
    repeat' (first
      | with_reducible (first | refine Rd.p ?_ | refine zE ?_ | refine zE0 ?_)
      | (refine w_apmNR (row := Rule.row) rfl rfl (by omega) ?_; intro _)
      | with_reducible (first | refine zI fun y hy => ?_ | refine zL ?_ | refine zS ?_ | refine zA fun _ => ?_ | refine zV ?_ | refine zC ?_ | refine zG ?_ | refine zU ?_ | refine zG0 ?_ | refine zU0 ?_ | refine zF ?_)
      | ((with_reducible refine acall_id ?_); refine ACall.box (ruleOf_c _ _ _ (by omega)) rfl rfl rfl ?_; rintro _ _ ⟨r, rfl, hr'⟩)
      | with_reducible (first | refine zX ?_ | refine zD fun _ => ?_ | refine zD0 ?_ | refine zN ?_ | refine zF0 ?_ | refine zX0 ?_ | refine z1 ?_ | refine z2 ?_ | refine z3 ?_ | refine z4 ?_ | refine z5 ?_ | refine z6 ?_ | refine z7 ?_ | refine z8 ?_ | refine y1 ?_ | refine y2 ?_ | refine y3 ?_ | refine y4 ?_ | refine y5 ?_ | refine y6 ?_ | refine y7 ?_ | refine y8 ?_ | refine Rt.p (fun _ => ?_) fun _ => ?_)
      | ((with_reducible apply w_ixM); (focus exact rfl); (focus exact rfl); case' hk => intro y hy) | ((with_reducible (first | apply w_val | apply q_ends)); (focus exact rfl)))
    refine q_loop ([r], i - 1, _, _) ?_ ?_ (by repeat' (first | exact slots_nil | apply slots_cons | rfl | (rw [map_snoc]; rfl) | (rw [len_snoc]; rfl) | (rw [hS]; rfl) | (rw [hS, map_snoc]; rfl) | (refine int_eq ?_; (try dsimp only); omega) | (refine congrArg AV.bool ?_; simp_all; done))) (by repeat' (first | exact slots_nil | apply slots_cons | rfl | (rw [map_snoc]; rfl) | (rw [len_snoc]; rfl) | (rw [hS]; rfl) | (rw [hS, map_snoc]; rfl) | (refine int_eq ?_; (try dsimp only); omega) | (refine congrArg AV.bool ?_; simp_all; done))) (by repeat' (first | exact kept_nil | apply kept_cons | rfl)) (by repeat' (first | exact kept_nil | apply kept_cons | rfl))
    · exact ⟨by dsimp only; omega, by simp at hil ⊢; omega, hnew r (by simpa using hr')⟩
    · dsimp only; omega
  | cons r0 rs =>
    repeat' (first
      | with_reducible (first | refine Rd.p ?_ | refine zE ?_ | refine zE0 ?_)
      | (refine w_apmMR (row := Rule.row) (xs := r0 :: rs) ruleR rfl rfl rfl rfl (by simp at hil ⊢; omega) ?_; intro _)
      | with_reducible (first | refine zI fun y hy => ?_ | refine zL ?_ | refine zS ?_ | refine zA fun _ => ?_ | refine zV ?_ | refine zC ?_ | refine zG ?_ | refine zU ?_ | refine zG0 ?_ | refine zU0 ?_ | refine zF ?_)
      | ((with_reducible refine acall_id ?_); refine ACall.box (ruleOf_c _ _ _ (by omega)) rfl rfl rfl ?_; rintro _ _ ⟨r, rfl, hr'⟩)
      | with_reducible (first | refine zX ?_ | refine zD fun _ => ?_ | refine zD0 ?_ | refine zN ?_ | refine zF0 ?_ | refine zX0 ?_ | refine z1 ?_ | refine z2 ?_ | refine z3 ?_ | refine z4 ?_ | refine z5 ?_ | refine z6 ?_ | refine z7 ?_ | refine z8 ?_ | refine y1 ?_ | refine y2 ?_ | refine y3 ?_ | refine y4 ?_ | refine y5 ?_ | refine y6 ?_ | refine y7 ?_ | refine y8 ?_ | refine Rt.p (fun _ => ?_) fun _ => ?_)
      | ((with_reducible apply w_ixM); (focus exact rfl); (focus exact rfl); case' hk => intro y hy) | ((with_reducible (first | apply w_val | apply q_ends)); (focus exact rfl)))
    refine q_loop (r0 :: rs ++ [r], i - 1, _, _) ?_ ?_ (by repeat' (first | exact slots_nil | apply slots_cons | rfl | (rw [map_snoc]; rfl) | (rw [len_snoc]; rfl) | (rw [hS]; rfl) | (rw [hS, map_snoc]; rfl) | (refine int_eq ?_; (try dsimp only); omega) | (refine congrArg AV.bool ?_; simp_all; done))) (by exact ⟨rfl, rfl, rfl, trivial⟩) (by repeat' (first | exact kept_nil | apply kept_cons | rfl)) (by repeat' (first | exact kept_nil | apply kept_cons | rfl))
    · exact ⟨by dsimp only; omega, by simp at hil ⊢; omega, hnew r (by simpa using hr')⟩
    · dsimp only; omega
theorem madeP.rule {gs : List Guest} {pre post : List Rule} {y y' : Rule} {a b : Nat} (h : madeP gs (pre ++ y :: post) a b) (hy : rErr y gs.length = 0 → rErr y' gs.length = 0) : madeP gs (pre ++ y' :: post) a b := by
  refine ⟨h.g, h.g1, h.gn, by have := h.rn; simp at this ⊢; omega, fun r hr => ?_⟩
  rcases List.mem_append.1 hr with h1 | h1
  · exact h.r r (by simp [h1])
  · rcases List.mem_cons.1 h1 with rfl | h1
    · exact hy (h.r y (by simp))
    · exact h.r r (by simp [h1])
theorem strict_p (g : Nat) (w : Int) : RawC Try.prog 52 [.ref 1000 g 0] (BoxS g w) (BoxR g fun av => ∃ gs rs, av = pA gs rs ∧ madeP gs rs 5 10) := by
  refine RawC.walk (H := hint52 Try.prog) ir52 Try.func52 rfl rfl rfl ?_
  unfold ir52
  repeat' (first
    | with_reducible (first | refine Rd.p ?_ | refine zE ?_ | refine zE0 ?_)
    | with_reducible (first | refine zI fun y hy => ?_ | refine zL ?_ | refine zS ?_ | refine zA fun _ => ?_ | refine zV ?_ | refine zC ?_ | refine zG ?_ | refine zU ?_ | refine zG0 ?_ | refine zU0 ?_ | refine zF ?_)
    | ((with_reducible refine acall_id ?_); (refine ACall.liftNS (partyOfW_c _ _ 5 10 (by omega) (by omega)) [(1000, 1000)] [(31, 6)] rfl rfl rfl rfl ⟨⟨_, rfl⟩, trivial⟩ (fun _ => rfl) ?_; rintro ⟨gs, rs, g31, w1⟩ _ ⟨rfl, hm⟩))
    | with_reducible (first | refine zX ?_ | refine zD fun _ => ?_ | refine zD0 ?_ | refine zN ?_ | refine zF0 ?_ | refine zX0 ?_ | refine z1 ?_ | refine z2 ?_ | refine z3 ?_ | refine z4 ?_ | refine z5 ?_ | refine z6 ?_ | refine z7 ?_ | refine z8 ?_ | refine y1 ?_ | refine y2 ?_ | refine y3 ?_ | refine y4 ?_ | refine y5 ?_ | refine y6 ?_ | refine y7 ?_ | refine y8 ?_ | refine Rt.p (fun _ => ?_) fun _ => ?_)
    | ((with_reducible apply w_ixM); (focus exact rfl); (focus exact rfl); case' hk => intro y hy) | ((with_reducible (first | apply w_val | apply q_ends)); (focus exact rfl)))
  dsimp only at hm
  cases rs with
  | nil =>
    repeat' (first
      | with_reducible (first | refine Rd.p ?_ | refine zE ?_ | refine zE0 ?_)
      | with_reducible (first | refine zI fun y hy => ?_ | refine zL ?_ | refine zS ?_ | refine zA fun _ => ?_ | refine zV ?_ | refine zC ?_ | refine zG ?_ | refine zU ?_ | refine zG0 ?_ | refine zU0 ?_ | refine zF ?_)
      | with_reducible (first | refine zX ?_ | refine zD fun _ => ?_ | refine zD0 ?_ | refine zN ?_ | refine zF0 ?_ | refine zX0 ?_ | refine z1 ?_ | refine z2 ?_ | refine z3 ?_ | refine z4 ?_ | refine z5 ?_ | refine z6 ?_ | refine z7 ?_ | refine z8 ?_ | refine y1 ?_ | refine y2 ?_ | refine y3 ?_ | refine y4 ?_ | refine y5 ?_ | refine y6 ?_ | refine y7 ?_ | refine y8 ?_ | refine Rt.p (fun _ => ?_) fun _ => ?_)
      | ((with_reducible apply w_ixM); (focus exact rfl); (focus exact rfl); case' hk => intro y hy) | ((with_reducible (first | apply w_val | apply q_ends)); (focus exact rfl)))
    rename_i g2 g3
    refine w_loopK [0, 2, 3] [2, 3, 1000] (fun _ : Unit => True) (fun _ => 0) (fun _ => [(4, .int .i64 0)]) (fun _ => []) () trivial ⟨rfl, trivial⟩ trivial ?_
    rintro ⟨⟩ _ e σ
    repeat' (first
      | with_reducible (first | refine Rd.p ?_ | refine zW (pA gs []) ?_ ?_)
      | (refine w_frzN rfl ?_)
      | with_reducible (first | refine zI fun y hy => ?_ | refine zL ?_ | refine zS ?_ | refine zA fun _ => ?_ | refine zV ?_ | refine zC ?_ | refine zG ?_ | refine zU ?_ | refine zG0 ?_ | refine zU0 ?_ | refine zF ?_)
      | with_reducible (first | refine zX ?_ | refine zD fun _ => ?_ | refine zD0 ?_ | refine zN ?_ | refine zF0 ?_ | refine zX0 ?_ | refine z1 ?_ | refine z2 ?_ | refine z3 ?_ | refine z4 ?_ | refine z5 ?_ | refine z6 ?_ | refine z7 ?_ | refine z8 ?_ | refine y1 ?_ | refine y2 ?_ | refine y3 ?_ | refine y4 ?_ | refine y5 ?_ | refine y6 ?_ | refine y7 ?_ | refine y8 ?_ | refine Rt.p (fun _ => ?_) fun _ => ?_)
      | ((with_reducible apply w_ixM); (focus exact rfl); (focus exact rfl); case' hk => intro y hy) | ((with_reducible (first | apply w_val | apply q_ends)); (focus exact rfl)))
    · exact Sub.agg (.cons (Sub.refl _) (.cons Sub.nil .nil))
    · exact ⟨_, ⟨gs, [], rfl, hm⟩, rfl⟩
  | cons r0 rs =>
    repeat' (first
      | with_reducible (first | refine Rd.p ?_ | refine zE ?_ | refine zE0 ?_)
      | with_reducible (first | refine zI fun y hy => ?_ | refine zL ?_ | refine zS ?_ | refine zA fun _ => ?_ | refine zV ?_ | refine zC ?_ | refine zG ?_ | refine zU ?_ | refine zG0 ?_ | refine zU0 ?_ | refine zF ?_)
      | with_reducible (first | refine zX ?_ | refine zD fun _ => ?_ | refine zD0 ?_ | refine zN ?_ | refine zF0 ?_ | refine zX0 ?_ | refine z1 ?_ | refine z2 ?_ | refine z3 ?_ | refine z4 ?_ | refine z5 ?_ | refine z6 ?_ | refine z7 ?_ | refine z8 ?_ | refine y1 ?_ | refine y2 ?_ | refine y3 ?_ | refine y4 ?_ | refine y5 ?_ | refine y6 ?_ | refine y7 ?_ | refine y8 ?_ | refine Rt.p (fun _ => ?_) fun _ => ?_)
      | ((with_reducible apply w_ixM); (focus exact rfl); (focus exact rfl); case' hk => intro y hy) | ((with_reducible (first | apply w_val | apply q_ends)); (focus exact rfl)))
    rename_i g2 g3
    refine w_loopK [0, 2, 3] [2] (fun x : List Rule × List Rule × Int => madeP gs (x.1 ++ x.2.1) 5 10 ∧ (x.1 ++ x.2.1).length = (r0 :: rs).length) (fun x => x.2.1.length) (fun x => [(4, .int .i64 x.1.length)])
      (fun x => [(3, (g3, .row [.slc 5 (gR gs) .non, .msl 6 g31 (r0 :: rs).length 4])), (6, (g31, .row ((x.1 ++ x.2.1).map Rule.row).flatten)), (1000, (g, .row [.int .u64 x.2.2]))]) ([], r0 :: rs, w1) ⟨hm, rfl⟩ ⟨rfl, trivial⟩
      (by exact ⟨rfl, congrArg (fun c => ((g31, Res.row c) : Nat × Res)) (ruleR.rens _ (r0 :: rs)), rfl, trivial⟩) ?_
    rintro ⟨pre, post, w2⟩ ⟨hmm, hl⟩ e σ
    dsimp only at hmm hl ⊢
    rw [List.length_append] at hl
    have hrl : (r0 :: rs).length = rs.length + 1 := rfl
    have hrn : (r0 :: rs).length ≤ 10 := hm.rn
    cases post with
    | nil =>
      rw [List.length_nil] at hl
      repeat' (first
        | with_reducible (first | refine Rd.p ?_ | refine zE ?_ | refine zE0 ?_)
        | (refine w_frzG (c := ((pre ++ []).map Rule.row).flatten) [(2, .ref 2 g2 0), (3, .ref 3 g3 0)] [(2, (g2, .row [.nsl, .nsl])), (3, (g3, .row [.slc 5 (gR gs) .non, .slc 4 (rR (pre ++ [])) .non])), (1000, (g, .row [.int .u64 w2]))] rfl rfl (ruleR.scals _) ⟨frzE_ref rfl (by decide), frzE_ref rfl (by decide), trivial⟩ ⟨frzS_keep rfl (by decide) rfl, frzS_at ruleR (by simp; omega) rfl (by decide) rfl, frzS_keep rfl (by decide) rfl, trivial⟩ ?_; intro e1 σ1)
        | with_reducible (first | refine zI fun y hy => ?_ | refine zL ?_ | refine zS ?_ | refine zA fun _ => ?_ | refine zV ?_ | refine zC ?_ | refine zG ?_ | refine zU ?_ | refine zG0 ?_ | refine zU0 ?_ | refine zF ?_)
        | with_reducible (first | refine zX ?_ | refine zD fun _ => ?_ | refine zD0 ?_ | refine zN ?_ | refine zF0 ?_ | refine zX0 ?_ | refine z1 ?_ | refine z2 ?_ | refine z3 ?_ | refine z4 ?_ | refine z5 ?_ | refine z6 ?_ | refine z7 ?_ | refine z8 ?_ | refine y1 ?_ | refine y2 ?_ | refine y3 ?_ | refine y4 ?_ | refine y5 ?_ | refine y6 ?_ | refine y7 ?_ | refine y8 ?_ | refine Rt.p (fun _ => ?_) fun _ => ?_)
        | ((with_reducible apply w_ixM); (focus exact rfl); (focus exact rfl); case' hk => intro y hy) | ((with_reducible (first | apply w_val | apply q_ends)); (focus exact rfl)))
      exact ⟨_, ⟨gs, pre ++ [], rfl, hmm⟩, rfl⟩
    | cons y post =>
      rw [List.length_cons] at hl
      have hnx : pre ++ y :: post = (pre ++ [y]) ++ post := by simp
      repeat' (first
        | with_reducible (first | refine Rd.p ?_ | refine zE ?_ | refine zE0 ?_)
        | with_reducible (first | refine zI fun y hy => ?_ | refine zL ?_ | refine zS ?_ | refine zA fun _ => ?_ | refine zV ?_ | refine zC ?_ | refine zG ?_ | refine zU ?_ | refine zG0 ?_ | refine zU0 ?_ | refine zF ?_)
        | ((with_reducible refine acall_id ?_); refine ACall.box (one_c _ _ _ (by omega)) rfl rfl rfl ?_; rintro _ _ ⟨t, rfl⟩)
        | with_reducible (first | refine zX ?_ | refine zD fun _ => ?_ | refine zD0 ?_ | refine zN ?_ | refine zF0 ?_ | refine zX0 ?_ | refine z1 ?_ | refine z2 ?_ | refine z3 ?_ | refine z4 ?_ | refine z5 ?_ | refine z6 ?_ | refine z7 ?_ | refine z8 ?_ | refine y1 ?_ | refine y2 ?_ | refine y3 ?_ | refine y4 ?_ | refine y5 ?_ | refine y6 ?_ | refine y7 ?_ | refine y8 ?_ | refine Rt.p (fun _ => ?_) fun _ => ?_)
        | ((with_reducible apply w_ixM); (focus exact rfl); (focus exact rfl); case' hk => intro y hy) | ((with_reducible (first | apply w_val | apply q_ends)); (focus exact rfl)))
      · refine w_stM ruleR (i := 6) (g := g31) (pre := pre) (y := y) (post := post) (y' := ⟨y.kind, y.a, y.b, 0⟩) (j := 3) (c := .int .i64 0) rfl rfl (by simp) (by omega) rfl rfl ?_
        repeat' (first
          | with_reducible (first | refine Rd.p ?_ | refine zE ?_ | refine zE0 ?_)
          | with_reducible (first | refine zI fun y hy => ?_ | refine zL ?_ | refine zS ?_ | refine zA fun _ => ?_ | refine zV ?_ | refine zC ?_ | refine zG ?_ | refine zU ?_ | refine zG0 ?_ | refine zU0 ?_ | refine zF ?_)
          | with_reducible (first | refine zX ?_ | refine zD fun _ => ?_ | refine zD0 ?_ | refine zN ?_ | refine zF0 ?_ | refine zX0 ?_ | refine z1 ?_ | refine z2 ?_ | refine z3 ?_ | refine z4 ?_ | refine z5 ?_ | refine z6 ?_ | refine z7 ?_ | refine z8 ?_ | refine y1 ?_ | refine y2 ?_ | refine y3 ?_ | refine y4 ?_ | refine y5 ?_ | refine y6 ?_ | refine y7 ?_ | refine y8 ?_ | refine Rt.p (fun _ => ?_) fun _ => ?_)
          | ((with_reducible apply w_ixM); (focus exact rfl); (focus exact rfl); case' hk => intro y hy) | ((with_reducible (first | apply w_val | apply q_ends)); (focus exact rfl)))
        have hnx2 : pre ++ (⟨y.kind, y.a, y.b, 0⟩ : Rule) :: post = (pre ++ [⟨y.kind, y.a, y.b, 0⟩]) ++ post := by simp
        refine q_loop (pre ++ [⟨y.kind, y.a, y.b, 0⟩], post, _) ⟨?_, ?_⟩ ?_ (by repeat' (first | exact slots_nil | apply slots_cons | rfl | (rw [map_snoc]; rfl) | (rw [len_snoc]; rfl) | (rw [hS]; rfl) | (rw [hS, map_snoc]; rfl) | (refine int_eq ?_; (try dsimp only); omega) | (refine congrArg AV.bool ?_; simp_all; done))) (by exact ⟨rfl, congrArg (fun l : List Rule => ((g31, Res.row (l.map Rule.row).flatten) : Nat × Res)) hnx2, rfl, trivial⟩) (by repeat' (first | exact kept_nil | apply kept_cons | rfl)) (by repeat' (first | exact kept_nil | apply kept_cons | rfl))
        · dsimp only
          rw [← hnx2]; exact hmm.rule rErr_w0
        · simp; omega
        · simp
      · refine q_loop (pre ++ [y], post, _) ⟨?_, ?_⟩ ?_ (by repeat' (first | exact slots_nil | apply slots_cons | rfl | (rw [map_snoc]; rfl) | (rw [len_snoc]; rfl) | (rw [hS]; rfl) | (rw [hS, map_snoc]; rfl) | (refine int_eq ?_; (try dsimp only); omega) | (refine congrArg AV.bool ?_; simp_all; done))) (by exact ⟨rfl, congrArg (fun l : List Rule => ((g31, Res.row (l.map Rule.row).flatten) : Nat × Res)) hnx, rfl, trivial⟩) (by repeat' (first | exact kept_nil | apply kept_cons | rfl)) (by repeat' (first | exact kept_nil | apply kept_cons | rfl))
        · dsimp only
          rw [← hnx]; exact hmm
        · simp; omega
        · simp
end Go.Abs
