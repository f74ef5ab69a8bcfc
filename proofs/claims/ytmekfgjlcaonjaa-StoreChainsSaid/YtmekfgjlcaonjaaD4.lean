/- A part of the proofs of the laws of this seat: contracts of the functions that they reach, each proved of the program's form in Lean. No condition beyond those that each contract names. -/
import Derived.Test.YtmekfgjlcaonjaaD3
import Derived.Test.YtmekfgjlcaonjaaD1
import Derived.Test.YtmekfgjlcaonjaaC16
import Derived.Test.YtmekfgjlcaonjaaC6
import Derived.Test.YtmekfgjlcaonjaaC3
import Derived.Test.YtmekfgjlcaonjaaC2
import Derived.Test.YtmekfgjlcaonjaaC1
import Derived.Test.YtmekfgjlcaonjaaB
set_option linter.unusedVariables false
set_option linter.unusedSimpArgs false
set_option maxRecDepth 20000
set_option maxHeartbeats 4000000
namespace Go.Abs
open Go.Proofs
/-- aloeswood/aloeswoodkit.Fit -/
def ir75 : IFn :=
  ⟨16, [(4, none)], (.seq (.ops [⟨(some 4), none, (.mov (.k (.int .i64 0)))⟩])
  (.seq (.seq (.ops [⟨(some 5), none, (.mov (.t 1))⟩,
    ⟨(some 6), none, (.bin .lss (.t 5) (.k (.int .i64 2)))⟩])
  (.cnd (.t 6)
    (.seq (.ops [⟨(some 4), none, (.mov (.k (.int .i64 0)))⟩])
    .ret)
    .skip))
  (.seq (.ops [⟨(some 7), none, (.mov (.t 0))⟩,
    ⟨(some 8), none, (.mov (.t 1))⟩,
    ⟨(some 9), none, (.bin .rem (.t 7) (.t 8))⟩,
    ⟨(some 0), none, (.mov (.t 9))⟩])
  (.seq (.seq (.ops [⟨(some 10), none, (.mov (.t 0))⟩,
    ⟨(some 11), none, (.bin .lss (.t 10) (.k (.int .i64 0)))⟩])
  (.cnd (.t 11)
    (.ops [⟨(some 12), none, (.mov (.t 0))⟩,
      ⟨(some 13), none, (.mov (.t 1))⟩,
      ⟨(some 14), none, (.bin .add (.t 12) (.t 13))⟩,
      ⟨(some 0), none, (.mov (.t 14))⟩])
    .skip))
  (.seq (.ops [⟨(some 15), none, (.mov (.t 0))⟩,
    ⟨(some 4), none, (.mov (.t 15))⟩])
  .ret)))))⟩
def hint75 (P : Program) : Hint := {}
theorem fitP_c (a m : Int) (ha : 0 ≤ a ∧ a ≤ 1000000) (hm : 2 ≤ m ∧ m ≤ 1000) : Fn0 Try.prog 75 [.int .i64 a, .int .i64 m] (fun v => v = .int .i64 (a.tmod m)) := by
  have h0 : 0 ≤ a.tmod m := Int.tmod_nonneg _ ha.1
  refine RawC.walk (H := hint75 Try.prog) ir75 Try.func75 rfl rfl rfl ?_
  unfold ir75
  repeat' (first
    | with_reducible (first | refine Rd.p ?_ | refine w_alt ?_ ?_ | refine zE ?_ | refine zE0 ?_)
    | with_reducible (first | refine zI fun y hy => ?_ | refine zL ?_ | refine zS ?_ | refine zA fun _ => ?_ | refine zV ?_ | refine zC ?_ | refine zG ?_ | refine zU ?_ | refine zG0 ?_ | refine zU0 ?_ | refine zF ?_)
    | with_reducible (first | refine zX ?_ | refine zD fun _ => ?_ | refine zD0 ?_ | refine zN ?_ | refine zF0 ?_ | refine zX0 ?_ | refine z1 ?_ | refine z2 ?_ | refine z3 ?_ | refine z4 ?_ | refine z5 ?_ | refine z6 ?_ | refine z7 ?_ | refine z8 ?_ | refine y1 ?_ | refine y2 ?_ | refine y3 ?_ | refine y4 ?_ | refine y5 ?_ | refine y6 ?_ | refine y7 ?_ | refine y8 ?_ | refine Rt.p (fun _ => ?_) fun _ => ?_)
    | ((with_reducible apply w_ixM); (focus exact rfl); (focus exact rfl); case' hk => intro y hy) | ((with_reducible (first | apply w_val | apply q_ends)); (focus exact rfl)))
  rfl
theorem order0_c (g : Nat) (w : Int) : RawC Try.prog 76 [.ref 1000 g 0, .int .i64 0] (BoxS g w) (BoxR g fun av => av = .nsl) := by
  refine RawC.walk (H := hint76 Try.prog) ir76 Try.func76 rfl rfl rfl ?_
  unfold ir76
  repeat' (first
    | with_reducible (first | refine Rd.p ?_ | refine w_alt ?_ ?_ | refine zE ?_ | refine zE0 ?_)
    | with_reducible (first | refine zI fun y hy => ?_ | refine zL ?_ | refine zS ?_ | refine zA fun _ => ?_ | refine zV ?_ | refine zC ?_ | refine zG ?_ | refine zU ?_ | refine zG0 ?_ | refine zU0 ?_ | refine zF ?_)
    | with_reducible (first | refine zX ?_ | refine zD fun _ => ?_ | refine zD0 ?_ | refine zN ?_ | refine zF0 ?_ | refine zX0 ?_ | refine z1 ?_ | refine z2 ?_ | refine z3 ?_ | refine z4 ?_ | refine z5 ?_ | refine z6 ?_ | refine z7 ?_ | refine z8 ?_ | refine y1 ?_ | refine y2 ?_ | refine y3 ?_ | refine y4 ?_ | refine y5 ?_ | refine y6 ?_ | refine y7 ?_ | refine y8 ?_ | refine Rt.p (fun _ => ?_) fun _ => ?_)
    | ((with_reducible apply w_ixM); (focus exact rfl); (focus exact rfl); case' hk => intro y hy) | ((with_reducible (first | apply w_val | apply q_ends)); (focus exact rfl)))
  refine w_loopK [0, 1, 5] [1000] (fun _ : Unit => True) (fun _ => 1) (fun _ => [(6, .int .i64 0)]) (fun _ => []) () trivial ⟨rfl, trivial⟩ trivial ?_
  rintro _ _ e σ
  repeat' (first
    | with_reducible (first | refine Rd.p ?_ | refine w_alt ?_ ?_ | refine zE ?_ | refine zE0 ?_)
    | with_reducible (first | refine zI fun y hy => ?_ | refine zL ?_ | refine zS ?_ | refine zA fun _ => ?_ | refine zV ?_ | refine zC ?_ | refine zG ?_ | refine zU ?_ | refine zG0 ?_ | refine zU0 ?_ | refine zF ?_)
    | (refine w_frzN rfl ?_)
    | with_reducible (first | refine zX ?_ | refine zD fun _ => ?_ | refine zD0 ?_ | refine zN ?_ | refine zF0 ?_ | refine zX0 ?_ | refine z1 ?_ | refine z2 ?_ | refine z3 ?_ | refine z4 ?_ | refine z5 ?_ | refine z6 ?_ | refine z7 ?_ | refine z8 ?_ | refine y1 ?_ | refine y2 ?_ | refine y3 ?_ | refine y4 ?_ | refine y5 ?_ | refine y6 ?_ | refine y7 ?_ | refine y8 ?_ | refine Rt.p (fun _ => ?_) fun _ => ?_)
    | ((with_reducible apply w_ixM); (focus exact rfl); (focus exact rfl); case' hk => intro y hy) | ((with_reducible (first | apply w_val | apply q_ends)); (focus exact rfl)))
  exact ⟨_, rfl, rfl⟩
theorem lnksE_of : ∀ {l : List Lnk}, (∀ x ∈ l, lnkE x = 0) → lnksE l = 0
  | [], _ => rfl
  | d :: r, h => by rw [lnksE, if_pos (h d (by simp))]; exact lnksE_of fun x hx => h x (by simp [hx])
/-- What holds of the links while they are made. -/
structure Mk (mk d0 n own st : Int) (l : List Lnk) (xs : List Int) : Prop where
  ln : linkL mk l
  dy : dayL d0 l xs
  n : l.length ≤ n
  own : 0 ≤ endH mk l ∧ endH mk l < own
  day : d0 ≤ endD d0 xs ∧ endD d0 xs ≤ d0 + st * l.length
  ok : ∀ y ∈ l, lnkE y = 0
theorem lnkE_of {y : Lnk} (h1 : 0 ≤ y.f ∧ y.f ≤ 19) (h2 : 0 ≤ y.t ∧ y.t ≤ 19) (h3 : y.f ≠ y.t) (h4 : 0 ≤ y.lo ∧ y.lo ≤ y.hi ∧ y.hi ≤ 100000) : lnkE y = 0 := by
  rw [lnkE, if_pos (by rw [Bool.and_eq_true, inB_t, inB_t]; exact ⟨h1, h2⟩), if_neg h3, dayE, if_pos (by rw [Bool.and_eq_true, inB_t, inB_t]; omega), if_neg (by omega)]
theorem Mk.snoc {mk d0 n own st : Int} {l : List Lnk} {xs : List Int} (h : Mk mk d0 n own st l xs) {y : Lnk} {s : Int} (hl : l.length < n) (h1 : y.f = endH mk l) (h2 : 0 ≤ y.t ∧ y.t < own) (h3 : y.f ≠ y.t) (ho : own ≤ 5) (hs : 1 ≤ s ∧ s ≤ st) (h4 : 0 ≤ y.lo ∧ y.lo ≤ endD d0 xs + s ∧ endD d0 xs + s ≤ y.hi ∧ y.hi ≤ 100000) :
    Mk mk d0 n own st (l ++ [y]) (xs ++ [endD d0 xs + s]) where
  ln := linkL_snoc h.ln h1
  dy := dayL_snoc h.dy (by omega) h4.2.1 h4.2.2.1
  n := by simp; omega
  own := by rw [endH_snoc]; exact h2
  day := by
    rw [endD_snoc, List.length_append, List.length_singleton]
    have := h.day
    have e : st * (((l.length + 1 : Nat)) : Int) = st * l.length + st := by rw [Int.natCast_add, Int.mul_add]; simp
    rw [e]; omega
  ok := fun z hz => by
    rcases List.mem_append.1 hz with hz | hz
    · exact h.ok z hz
    · obtain rfl : z = y := by simpa using hz
      have := h.own
      exact lnkE_of (by omega) (by omega) h3 (by omega)
theorem Mk.chain {mk d0 n own st lo hi : Int} {l : List Lnk} {xs order : List Int} (h : Mk mk d0 n own st l xs) (hp : isPerm l.length order) (hn : l.length ≤ 7) (hm : 0 ≤ mk ∧ mk ≤ 19) (hd : 0 ≤ lo ∧ lo ≤ d0 ∧ d0 ≤ hi ∧ hi ≤ 100000) : chainE ⟨mk, lo, hi, order.map (lkAt l)⟩ = 0 := by
  have hf : formE ⟨mk, lo, hi, order.map (lkAt l)⟩ = 0 := by
    rw [formE, if_pos (inB_t.2 hm), if_pos (by rw [dayE, if_pos (by rw [Bool.and_eq_true, inB_t, inB_t]; dsimp only; omega), if_neg (by dsimp only; omega)]), if_neg (by simp [hp.len]; omega)]
    refine lnksE_of fun x hx => ?_
    obtain ⟨i, hi, rfl⟩ := List.mem_map.1 hx
    exact h.ok _ (lkAt_mem (hp.bd i hi))
  rw [chainE, if_pos hf, if_neg (made_tales (c := ⟨mk, lo, hi, order.map (lkAt l)⟩) hp rfl h.ln h.dy ⟨hd.2.1, hd.2.2.1⟩ hd.2.2.2 fun y hy => (lnkE_0 (h.ok y hy)).2.2.2.2.2.2.1)]
end Go.Abs
