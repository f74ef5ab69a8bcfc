/- A part of the proofs of the laws of this seat: contracts of the functions that they reach, each proved of the program's form in Lean. No condition beyond those that each contract names. -/
import Derived.Test.YtmekfgjlcaonjaaD3
import Derived.Test.YtmekfgjlcaonjaaD1
import Derived.Test.YtmekfgjlcaonjaaC16
import Derived.Test.YtmekfgjlcaonjaaC6
import Derived.Test.YtmekfgjlcaonjaaC3
import Derived.Test.YtmekfgjlcaonjaaC2
import Derived.Test.YtmekfgjlcaonjaaC1
import Derived.Test.YtmekfgjlcaonjaaB
set_option linter.unusedVariables false
set_option linter.unusedSimpArgs false
set_option maxRecDepth 20000
set_option maxHeartbeats 4000000
namespace Go.Abs
open Go.Proofs
/-- aloeswood/aloeswoodkit.Fit -/
def ir75 : IFn :=
  ⟨16, [(4, none)], (.seq (.ops [⟨(some 4), none, (.mov (.k (.int .i64 0)))⟩])
  (.seq (.seq (.ops [⟨(some 5), none, (.mov (.t 1))⟩,
    ⟨(some 6), none, (.bin .lss (.t 5) (.k (.int .i64 2)))⟩])
  (.cnd (.t 6)
    (.seq (.ops [⟨(some 4), none, (.mov (.k (.int .i64 0)))⟩])
    .ret)
    .skip))
  (.seq (.ops [⟨(some 7), none, (.mov (.t 0))⟩,
    ⟨(some 8), none, (.mov (.t 1))⟩,
    ⟨(some 9), none, (.bin .rem (.t 7) (.t 8))⟩,
    ⟨(some 0), none, (.mov (.t 9))⟩])
  (.seq (.seq (.ops [⟨(some 10), none, (.mov (.t 0))⟩,
    ⟨(some 11), none, (.bin .lss (.t 10) (.k (.int .i64 0)))⟩])
  (.cnd (.t 11)
    (.ops [⟨(some 12), none, (.mov (.t 0))⟩,
      ⟨(some 13), none, (.mov (.t 1))⟩,
      ⟨(some 14), none, (.bin .add (.t 12) (.t 13))⟩,
      ⟨(some 0), none, (.mov (.t 14))⟩])
    .skip))
  (.seq (.ops [⟨(some 15), none, (.mov (.t 0))⟩,
    ⟨(some 4), none, (.mov (.t 15))⟩])
  .ret)))))⟩
def hint75 (P : Program) : Hint := {}
/-- aloeswood/aloeswoodkit.ChainOf -/
def ir18 : IFn :=
  ⟨109, [(8, some (4, true))], (.seq (.ops [⟨(some 8), none, (.new [(.int .i64 0), (.int .i64 0), (.int .i64 0), .nsl])⟩])
  (.seq (.ops [⟨(some 18), none, (.mov (.t 0))⟩,
    ⟨(some 19), none, (.callF 74 [(.t 18), (.k (.int .i64 2)), (.k (.int .i64 5))])⟩,
    ⟨(some 9), none, (.mov (.t 19))⟩])
  (.seq (.ops [⟨(some 20), none, (.mov (.t 0))⟩,
    ⟨(some 21), none, (.mov (.t 9))⟩,
    ⟨(some 22), none, (.callF 20 [(.t 20), (.t 21)])⟩,
    ⟨(some 23), none, (.bld [(.int .i64 0), (.int .i64 0), (.int .i64 0), .nsl] [(0, 1, (.t 22))])⟩,
    ⟨(some 10), none, (.new [(.int .i64 0), (.int .i64 0), (.int .i64 0), .nsl])⟩,
    ⟨none, none, (.st 4 (.t 10) (.t 23))⟩])
  (.seq (.ops [⟨(some 24), none, (.mov (.t 0))⟩,
    ⟨(some 25), none, (.mov (.t 3))⟩,
    ⟨(some 26), none, (.mov (.t 3))⟩,
    ⟨(some 27), none, (.bin .add (.t 26) (.k (.int .i64 5)))⟩,
    ⟨(some 28), none, (.callF 74 [(.t 24), (.t 25), (.t 27)])⟩,
    ⟨(some 11), none, (.mov (.t 28))⟩])
  (.seq (.ops [⟨(some 29), none, (.mov (.t 11))⟩,
    ⟨(some 30), none, (.mov (.t 0))⟩,
    ⟨(some 31), none, (.mov (.t 3))⟩,
    ⟨(some 32), none, (.bin .add (.t 31) (.k (.int .i64 1)))⟩,
    ⟨(some 33), none, (.callF 20 [(.t 30), (.t 32)])⟩,
    ⟨(some 34), none, (.bin .sub (.t 29) (.t 33))⟩,
    ⟨(some 35), none, (.mov (.t 11))⟩,
    ⟨(some 36), none, (.mov (.t 0))⟩,
    ⟨(some 37), none, (.mov (.t 3))⟩,
    ⟨(some 38), none, (.bin .add (.t 37) (.k (.int .i64 1)))⟩,
    ⟨(some 39), none, (.callF 20 [(.t 36), (.t 38)])⟩,
    ⟨(some 40), none, (.bin .add (.t 35) (.t 39))⟩,
    ⟨(some 41), none, (.bld [(.int .i64 0), (.int .i64 0)] [(0, 1, (.t 34)), (1, 1, (.t 40))])⟩,
    ⟨(some 42), none, (.flA 1 (.t 10))⟩,
    ⟨none, none, (.st 2 (.t 42) (.t 41))⟩])
  (.seq (.ops [⟨(some 43), none, (.flA 0 (.t 10))⟩,
    ⟨(some 44), none, (.ld 1 false (.t 43))⟩,
    ⟨(some 12), none, (.mov (.t 44))⟩])
  (.seq (.ops [⟨(some 13), none, (.nil 4 13)⟩])
  (.seq (.seq (.ops [⟨(some 45), none, (.mov (.t 0))⟩,
    ⟨(some 46), none, (.mov (.t 1))⟩,
    ⟨(some 47), none, (.bin .add (.t 46) (.k (.int .i64 1)))⟩,
    ⟨(some 48), none, (.callF 20 [(.t 45), (.t 47)])⟩,
    ⟨(some 14), none, (.mov (.t 48))⟩])
  (.blk 0 (.loop (.seq (.seq (.ops [⟨(some 49), none, (.mov (.t 14))⟩,
        ⟨(some 50), none, (.bin .gtr (.t 49) (.k (.int .i64 0)))⟩])
      (.cnd (.t 50)
        .skip
        (.exit 0)))
      (.seq (.blk 1 (.seq (.ops [⟨(some 53), none, (.mov (.t 12))⟩,
          ⟨(some 54), none, (.mov (.t 0))⟩,
          ⟨(some 55), none, (.mov (.t 9))⟩,
          ⟨(some 56), none, (.bin .sub (.t 55) (.k (.int .i64 1)))⟩,
          ⟨(some 57), none, (.callF 74 [(.t 54), (.k (.int .i64 1)), (.t 56)])⟩,
          ⟨(some 58), none, (.bin .add (.t 53) (.t 57))⟩,
          ⟨(some 59), none, (.mov (.t 9))⟩,
          ⟨(some 60), none, (.callF 75 [(.t 58), (.t 59)])⟩,
          ⟨(some 15), none, (.mov (.t 60))⟩])
        (.seq (.ops [⟨(some 61), none, (.mov (.t 11))⟩,
          ⟨(some 62), none, (.mov (.t 0))⟩,
          ⟨(some 63), none, (.mov (.t 2))⟩,
          ⟨(some 64), none, (.callF 74 [(.t 62), (.k (.int .i64 1)), (.t 63)])⟩,
          ⟨(some 65), none, (.bin .add (.t 61) (.t 64))⟩,
          ⟨(some 11), none, (.mov (.t 65))⟩])
        (.seq (.ops [⟨(some 66), none, (.mov (.t 13))⟩,
          ⟨(some 67), none, (.mov (.t 12))⟩,
          ⟨(some 68), none, (.mov (.t 15))⟩,
          ⟨(some 69), none, (.mov (.t 11))⟩,
          ⟨(some 70), none, (.mov (.t 0))⟩,
          ⟨(some 71), none, (.mov (.t 3))⟩,
          ⟨(some 72), none, (.bin .add (.t 71) (.k (.int .i64 1)))⟩,
          ⟨(some 73), none, (.callF 20 [(.t 70), (.t 72)])⟩,
          ⟨(some 74), none, (.bin .sub (.t 69) (.t 73))⟩,
          ⟨(some 75), none, (.mov (.t 11))⟩,
          ⟨(some 76), none, (.mov (.t 0))⟩,
          ⟨(some 77), none, (.mov (.t 3))⟩,
          ⟨(some 78), none, (.bin .add (.t 77) (.k (.int .i64 1)))⟩,
          ⟨(some 79), none, (.callF 20 [(.t 76), (.t 78)])⟩,
          ⟨(some 80), none, (.bin .add (.t 75) (.t 79))⟩,
          ⟨(some 81), none, (.bld [(.int .i64 0), (.int .i64 0)] [(0, 1, (.t 74)), (1, 1, (.t 80))])⟩,
          ⟨(some 82), none, (.bld [(.int .i64 0), (.int .i64 0), (.int .i64 0), (.int .i64 0)] [(0, 1, (.t 67)), (1, 1, (.t 68)), (2, 2, (.t 81))])⟩,
          ⟨(some 83), none, (.bsl 4 [[(.int .i64 0), (.int .i64 0), (.int .i64 0), (.int .i64 0)]] [(0, (.t 82))])⟩,
          ⟨(some 84), none, (.app 4 32 (.t 66) (.t 83) 13)⟩,
          ⟨(some 13), none, (.mov (.t 84))⟩])
        (.ops [⟨(some 85), none, (.mov (.t 15))⟩,
          ⟨(some 12), none, (.mov (.t 85))⟩])))))
      (.ops [⟨(some 51), none, (.mov (.t 14))⟩,
        ⟨(some 52), none, (.bin .sub (.t 51) (.k (.int .i64 1)))⟩,
        ⟨(some 14), none, (.mov (.t 52))⟩]))))))
  (.seq (.ops [⟨(some 86), none, (.mov (.t 0))⟩,
    ⟨(some 87), none, (.mov (.t 13))⟩,
    ⟨(some 88), none, (.len false (.t 87))⟩,
    ⟨(some 89), none, (.callF 76 [(.t 86), (.t 88)])⟩,
    ⟨(some 16), none, (.mov (.t 89))⟩])
  (.seq (.seq (.ops [⟨(some 17), none, (.mov (.k (.int .i64 0)))⟩])
  (.blk 2 (.loop (.seq (.seq (.ops [⟨(some 90), none, (.mov (.t 17))⟩,
        ⟨(some 91), none, (.mov (.t 16))⟩,
        ⟨(some 92), none, (.len false (.t 91))⟩,
        ⟨(some 93), none, (.bin .lss (.t 90) (.t 92))⟩])
      (.cnd (.t 93)
        .skip
        (.exit 2)))
      (.seq (.blk 3 (.ops [⟨(some 96), none, (.flA 3 (.t 10))⟩,
          ⟨(some 97), none, (.ld 1 false (.t 96))⟩,
          ⟨(some 98), none, (.mov (.t 13))⟩,
          ⟨(some 99), none, (.mov (.t 16))⟩,
          ⟨(some 100), none, (.mov (.t 17))⟩,
          ⟨(some 101), none, (.ixA 1 (.t 99) (.t 100))⟩,
          ⟨(some 102), none, (.ld 1 false (.t 101))⟩,
          ⟨(some 103), none, (.ixA 4 (.t 98) (.t 102))⟩,
          ⟨(some 104), none, (.ld 4 true (.t 103))⟩,
          ⟨(some 105), none, (.bsl 4 [[(.int .i64 0), (.int .i64 0), (.int .i64 0), (.int .i64 0)]] [(0, (.t 104))])⟩,
          ⟨(some 106), none, (.app 4 32 (.t 97) (.t 105) 106)⟩,
          ⟨(some 107), none, (.flA 3 (.t 10))⟩,
          ⟨none, none, (.st 1 (.t 107) (.t 106))⟩]))
      (.ops [⟨(some 94), none, (.mov (.t 17))⟩,
        ⟨(some 95), none, (.bin .add (.t 94) (.k (.int .i64 1)))⟩,
        ⟨(some 17), none, (.mov (.t 95))⟩]))))))
  (.seq (.ops [⟨(some 108), none, (.ld 4 true (.t 10))⟩,
    ⟨none, none, (.st 4 (.t 8) (.t 108))⟩])
  .ret)))))))))))⟩
def hint18 (P : Program) : Hint := { site := [(84, 13)], nils := [(13, 4)], frz := [], mve := [], wr := [] }
theorem fitP_c (a m : Int) (ha : 0 ≤ a ∧ a ≤ 1000000) (hm : 2 ≤ m ∧ m ≤ 1000) : Fn0 Try.prog 75 [.int .i64 a, .int .i64 m] (fun v => v = .int .i64 (a.tmod m)) := by
  have h0 : 0 ≤ a.tmod m := Int.tmod_nonneg _ ha.1
  refine RawC.walk (H := hint75 Try.prog) ir75 Try.func75 rfl rfl rfl ?_
  unfold ir75
  repeat' (first
    | with_reducible (first | refine Rd.p ?_ | refine w_alt ?_ ?_ | refine zE ?_ | refine zE0 ?_)
    | with_reducible (first | refine zI fun y hy => ?_ | refine zL ?_ | refine zS ?_ | refine zA fun _ => ?_ | refine zV ?_ | refine zC ?_ | refine zG ?_ | refine zU ?_ | refine zG0 ?_ | refine zU0 ?_ | refine zF ?_)
    | with_reducible (first | refine zX ?_ | refine zD fun _ => ?_ | refine zD0 ?_ | refine zN ?_ | refine zF0 ?_ | refine zX0 ?_ | refine z1 ?_ | refine z2 ?_ | refine z3 ?_ | refine z4 ?_ | refine z5 ?_ | refine z6 ?_ | refine z7 ?_ | refine z8 ?_ | refine y1 ?_ | refine y2 ?_ | refine y3 ?_ | refine y4 ?_ | refine y5 ?_ | refine y6 ?_ | refine y7 ?_ | refine y8 ?_ | refine Rt.p (fun _ => ?_) fun _ => ?_)
    | ((with_reducible apply w_ixM); (focus exact rfl); (focus exact rfl); case' hk => intro y hy) | ((with_reducible (first | apply w_val | apply q_ends)); (focus exact rfl)))
  rfl
theorem order0_c (g : Nat) (w : Int) : RawC Try.prog 76 [.ref 1000 g 0, .int .i64 0] (BoxS g w) (BoxR g fun av => av = .nsl) := by
  refine RawC.walk (H := hint76 Try.prog) ir76 Try.func76 rfl rfl rfl ?_
  unfold ir76
  repeat' (first
    | with_reducible (first | refine Rd.p ?_ | refine w_alt ?_ ?_ | refine zE ?_ | refine zE0 ?_)
    | with_reducible (first | refine zI fun y hy => ?_ | refine zL ?_ | refine zS ?_ | refine zA fun _ => ?_ | refine zV ?_ | refine zC ?_ | refine zG ?_ | refine zU ?_ | refine zG0 ?_ | refine zU0 ?_ | refine zF ?_)
    | with_reducible (first | refine zX ?_ | refine zD fun _ => ?_ | refine zD0 ?_ | refine zN ?_ | refine zF0 ?_ | refine zX0 ?_ | refine z1 ?_ | refine z2 ?_ | refine z3 ?_ | refine z4 ?_ | refine z5 ?_ | refine z6 ?_ | refine z7 ?_ | refine z8 ?_ | refine y1 ?_ | refine y2 ?_ | refine y3 ?_ | refine y4 ?_ | refine y5 ?_ | refine y6 ?_ | refine y7 ?_ | refine y8 ?_ | refine Rt.p (fun _ => ?_) fun _ => ?_)
    | ((with_reducible apply w_ixM); (focus exact rfl); (focus exact rfl); case' hk => intro y hy) | ((with_reducible (first | apply w_val | apply q_ends)); (focus exact rfl)))
  refine w_loopK [0, 1, 5] [1000] (fun _ : Unit => True) (fun _ => 1) (fun _ => [(6, .int .i64 0)]) (fun _ => []) () trivial ⟨rfl, trivial⟩ trivial ?_
  rintro _ _ e σ
  repeat' (first
    | with_reducible (first | refine Rd.p ?_ | refine w_alt ?_ ?_ | refine zE ?_ | refine zE0 ?_)
    | with_reducible (first | refine zI fun y hy => ?_ | refine zL ?_ | refine zS ?_ | refine zA fun _ => ?_ | refine zV ?_ | refine zC ?_ | refine zG ?_ | refine zU ?_ | refine zG0 ?_ | refine zU0 ?_ | refine zF ?_)
    | (refine w_frzN rfl ?_)
    | with_reducible (first | refine zX ?_ | refine zD fun _ => ?_ | refine zD0 ?_ | refine zN ?_ | refine zF0 ?_ | refine zX0 ?_ | refine z1 ?_ | refine z2 ?_ | refine z3 ?_ | refine z4 ?_ | refine z5 ?_ | refine z6 ?_ | refine z7 ?_ | refine z8 ?_ | refine y1 ?_ | refine y2 ?_ | refine y3 ?_ | refine y4 ?_ | refine y5 ?_ | refine y6 ?_ | refine y7 ?_ | refine y8 ?_ | refine Rt.p (fun _ => ?_) fun _ => ?_)
    | ((with_reducible apply w_ixM); (focus exact rfl); (focus exact rfl); case' hk => intro y hy) | ((with_reducible (first | apply w_val | apply q_ends)); (focus exact rfl)))
  exact ⟨_, rfl, rfl⟩
def optK : List Lnk → AV
  | [] => .nsl
  | x :: r => .slc 4 (lR (x :: r)) .non
def lkcV (l : List Lnk) (g : Nat) : List Int → AV
  | [] => .nsl
  | x :: r => .slc 4 (lR ((x :: r).map (lkAt l))) (.own 106 g)
def lkS6 (g : Nat) : List Int → List (Nat × (Nat × Res))
  | [] => []
  | _ :: _ => [(106, (g, .row []))]
theorem lnksE_of : ∀ {l : List Lnk}, (∀ x ∈ l, lnkE x = 0) → lnksE l = 0
  | [], _ => rfl
  | d :: r, h => by rw [lnksE, if_pos (h d (by simp))]; exact lnksE_of fun x hx => h x (by simp [hx])
/-- What holds of the links while they are made. -/
structure Mk (mk d0 n own st : Int) (l : List Lnk) (xs : List Int) : Prop where
  ln : linkL mk l
  dy : dayL d0 l xs
  n : l.length ≤ n
  own : 0 ≤ endH mk l ∧ endH mk l < own
  day : d0 ≤ endD d0 xs ∧ endD d0 xs ≤ d0 + st * l.length
  ok : ∀ y ∈ l, lnkE y = 0
theorem lnkE_of {y : Lnk} (h1 : 0 ≤ y.f ∧ y.f ≤ 19) (h2 : 0 ≤ y.t ∧ y.t ≤ 19) (h3 : y.f ≠ y.t) (h4 : 0 ≤ y.lo ∧ y.lo ≤ y.hi ∧ y.hi ≤ 100000) : lnkE y = 0 := by
  rw [lnkE, if_pos (by rw [Bool.and_eq_true, inB_t, inB_t]; exact ⟨h1, h2⟩), if_neg h3, dayE, if_pos (by rw [Bool.and_eq_true, inB_t, inB_t]; omega), if_neg (by omega)]
theorem Mk.snoc {mk d0 n own st : Int} {l : List Lnk} {xs : List Int} (h : Mk mk d0 n own st l xs) {y : Lnk} {s : Int} (hl : l.length < n) (h1 : y.f = endH mk l) (h2 : 0 ≤ y.t ∧ y.t < own) (h3 : y.f ≠ y.t) (ho : own ≤ 5) (hs : 1 ≤ s ∧ s ≤ st) (h4 : 0 ≤ y.lo ∧ y.lo ≤ endD d0 xs + s ∧ endD d0 xs + s ≤ y.hi ∧ y.hi ≤ 100000) :
    Mk mk d0 n own st (l ++ [y]) (xs ++ [endD d0 xs + s]) where
  ln := linkL_snoc h.ln h1
  dy := dayL_snoc h.dy (by omega) h4.2.1 h4.2.2.1
  n := by simp; omega
  own := by rw [endH_snoc]; exact h2
  day := by
    rw [endD_snoc, List.length_append, List.length_singleton]
    have := h.day
    have e : st * (((l.length + 1 : Nat)) : Int) = st * l.length + st := by rw [Int.natCast_add, Int.mul_add]; simp
    rw [e]; omega
  ok := fun z hz => by
    rcases List.mem_append.1 hz with hz | hz
    · exact h.ok z hz
    · obtain rfl : z = y := by simpa using hz
      have := h.own
      exact lnkE_of (by omega) (by omega) h3 (by omega)
theorem Mk.chain {mk d0 n own st lo hi : Int} {l : List Lnk} {xs order : List Int} (h : Mk mk d0 n own st l xs) (hp : isPerm l.length order) (hn : l.length ≤ 7) (hm : 0 ≤ mk ∧ mk ≤ 19) (hd : 0 ≤ lo ∧ lo ≤ d0 ∧ d0 ≤ hi ∧ hi ≤ 100000) : chainE ⟨mk, lo, hi, order.map (lkAt l)⟩ = 0 := by
  have hf : formE ⟨mk, lo, hi, order.map (lkAt l)⟩ = 0 := by
    rw [formE, if_pos (inB_t.2 hm), if_pos (by rw [dayE, if_pos (by rw [Bool.and_eq_true, inB_t, inB_t]; dsimp only; omega), if_neg (by dsimp only; omega)]), if_neg (by simp [hp.len]; omega)]
    refine lnksE_of fun x hx => ?_
    obtain ⟨i, hi, rfl⟩ := List.mem_map.1 hx
    exact h.ok _ (lkAt_mem (hp.bd i hi))
  rw [chainE, if_pos hf, if_neg (made_tales (c := ⟨mk, lo, hi, order.map (lkAt l)⟩) hp rfl h.ln h.dy ⟨hd.2.1, hd.2.2.1⟩ hd.2.2.2 fun y hy => (lnkE_0 (h.ok y hy)).2.2.2.2.2.2.1)]
theorem chainO_c (g : Nat) (w : Int) (k st wd : Int) (hk : 0 ≤ k ∧ k ≤ 7) (hst : 1 ≤ st ∧ st ≤ 10) (hw : 1 ≤ wd ∧ wd ≤ 5) : RawC Try.prog 18 [.ref 1000 g 0, .int .i64 k, .int .i64 st, .int .i64 wd] (BoxS g w) (BoxR g fun av => ∃ c : Chn, av = .agg [.int .i64 c.maker, .int .i64 c.lo, .int .i64 c.hi, optK c.ls] ∧ chainE c = 0 ∧ c.ls.length ≤ k) := by
  refine RawC.walk (H := hint18 Try.prog) ir18 Try.func18 rfl rfl rfl ?_
  unfold ir18
  repeat' (first
    | with_reducible (first | refine Rd.p ?_ | refine w_alt ?_ ?_ | refine zE ?_ | refine zE0 ?_)
    | with_reducible (first | refine zI fun y hy => ?_ | refine zL ?_ | refine zS ?_ | refine zA fun _ => ?_ | refine zV ?_ | refine zC ?_ | refine zG ?_ | refine zU ?_ | refine zG0 ?_ | refine zU0 ?_ | refine zF ?_)
    | ((with_reducible refine acall_id ?_); refine ACall.box (any_c _ _ 2 5 (by omega) (by omega) (by omega) (by omega)) rfl rfl rfl ?_; rintro _ _ ⟨ow, rfl, ho1, ho2⟩)
    | ((with_reducible refine acall_id ?_); refine ACall.box (upp_c _ _ ow (by omega) (by omega)) rfl rfl rfl ?_; rintro _ _ ⟨mk, rfl, hm1, hm2⟩)
    | ((with_reducible refine acall_id ?_); refine ACall.box (any_c _ _ wd (wd + 5) (by omega) (by omega) (by omega) (by omega)) rfl rfl rfl ?_; rintro _ _ ⟨d0, rfl, hd1, hd2⟩)
    | ((with_reducible refine acall_id ?_); refine ACall.box (upp_c _ _ (wd + 1) (by omega) (by omega)) rfl rfl rfl ?_; rintro _ _ ⟨u, rfl, hu1, hu2⟩)
    | ((with_reducible refine acall_id ?_); refine ACall.box (upp_c _ _ (k + 1) (by omega) (by omega)) rfl rfl rfl ?_; rintro _ _ ⟨n, rfl, hn1, hn2⟩)
    | with_reducible (first | refine zX ?_ | refine zD fun _ => ?_ | refine zD0 ?_ | refine zN ?_ | refine zF0 ?_ | refine zX0 ?_ | refine z1 ?_ | refine z2 ?_ | refine z3 ?_ | refine z4 ?_ | refine z5 ?_ | refine z6 ?_ | refine z7 ?_ | refine z8 ?_ | refine y1 ?_ | refine y2 ?_ | refine y3 ?_ | refine y4 ?_ | refine y5 ?_ | refine y6 ?_ | refine y7 ?_ | refine y8 ?_ | refine Rt.p (fun _ => ?_) fun _ => ?_)
    | ((with_reducible apply w_ixM); (focus exact rfl); (focus exact rfl); case' hk => intro y hy) | ((with_reducible (first | apply w_val | apply q_ends)); (focus exact rfl)))
  rename_i g8 _ _ g10 _ _ u1 hu3 hu4 _ g13 w1
  have how : ow ≤ 5 := by omega
  refine w_loopK [0, 2, 3, 8, 9, 10] [8, 10] (fun x : List Lnk × List Int × Nat × Int => Mk mk d0 n ow st x.1 x.2.1) (fun x => (n - x.1.length).toNat) (fun x => [(11, .int .i64 (endD d0 x.2.1)), (12, .int .i64 (endH mk x.1)), (13, .slc 4 (lR x.1) (.own 13 x.2.2.1)), (14, .int .i64 (n - x.1.length))])
    (fun x => [(1000, (g, .row [.int .u64 x.2.2.2])), (13, (x.2.2.1, .row []))]) ([], [], g13, _) ⟨trivial, trivial, by simp; omega, ⟨hm1, hm2⟩, by simp [endD], by simp⟩ ⟨rfl, rfl, rfl, by show AV.int .i64 _ = AV.int .i64 _; refine int_eq ?_; simp, trivial⟩ (by exact ⟨rfl, rfl, trivial⟩) ?_
  rintro ⟨l, xs, g13, w⟩ M e σ
  dsimp only at M ⊢
  have hln := M.n
  have hown := M.own
  have hday := M.day
  have hdl : st * (l.length : Int) ≤ 10 * 7 := by
    have : (l.length : Int) ≤ 7 := by omega
    exact Int.mul_le_mul hst.2 this (by omega) (by omega)
  have hl7 : l.length ≤ 7 := by omega
  by_cases hlt : (l.length : Int) < n
  · have hsn : ∀ y, (l ++ [y]).length = l.length + 1 := fun y => by simp
    generalize hD : endD d0 xs = D at *
    generalize hH : endH mk l = H at *
    repeat' (first
      | with_reducible (first | refine Rd.p ?_ | refine w_alt ?_ ?_ | refine zE ?_ | refine zE0 ?_)
      | (refine zA (hz := app_one (z := Lnk.mk _ _ _ _) rfl) fun _ => ?_)
      | with_reducible (first | refine zI fun y hy => ?_ | refine zL ?_ | refine zS ?_ | refine zA fun _ => ?_ | refine zV ?_ | refine zC ?_ | refine zG ?_ | refine zU ?_ | refine zG0 ?_ | refine zU0 ?_ | refine zF ?_)
      | ((with_reducible refine acall_id ?_); refine ACall.box (any_c _ _ 1 (ow - 1) (by omega) (by omega) (by omega) (by omega)) rfl rfl rfl ?_; rintro _ _ ⟨j, rfl, hj1, hj2⟩)
      | ((with_reducible refine acall_id ?_); refine ACall.box (any_c _ _ 1 st (by omega) (by omega) (by omega) (by omega)) rfl rfl rfl ?_; rintro _ _ ⟨s, rfl, hs1, hs2⟩)
      | ((with_reducible refine acall_id ?_); refine ACall.box (upp_c _ _ (wd + 1) (by omega) (by omega)) rfl rfl rfl ?_; rintro _ _ ⟨v, rfl, hv1, hv2⟩)
      | ((with_reducible refine acall_id ?_); refine ACall.val (fitP_c _ _ (by omega) (by omega)) rfl rfl ?_)
      | with_reducible (first | refine zX ?_ | refine zD fun _ => ?_ | refine zD0 ?_ | refine zN ?_ | refine zF0 ?_ | refine zX0 ?_ | refine z1 ?_ | refine z2 ?_ | refine z3 ?_ | refine z4 ?_ | refine z5 ?_ | refine z6 ?_ | refine z7 ?_ | refine z8 ?_ | refine y1 ?_ | refine y2 ?_ | refine y3 ?_ | refine y4 ?_ | refine y5 ?_ | refine y6 ?_ | refine y7 ?_ | refine y8 ?_ | refine Rt.p (fun _ => ?_) fun _ => ?_)
      | ((with_reducible apply w_ixM); (focus exact rfl); (focus exact rfl); case' hk => intro y hy) | ((with_reducible (first | apply w_val | apply q_ends)); (focus exact rfl)))
    rename_i _ _ v' hv3 hv4 _ _
    have h0 : 0 ≤ (H + j).tmod ow := Int.tmod_nonneg _ (by omega)
    have h1 : (H + j).tmod ow < ow := Int.tmod_lt_of_pos _ (by omega)
    have h2 : H ≠ (H + j).tmod ow := by
      intro he
      have hd : ow ∣ j := by
        have h3 : (H + j).tmod ow = (H + j) % ow := Int.tmod_eq_emod_of_nonneg (by omega)
        rw [h3] at he
        exact ⟨(H + j) / ow, by have := Int.mul_ediv_add_emod (H + j) ow; omega⟩
      have := Int.le_of_dvd (by omega) hd
      omega
    subst hD hH
    refine q_loop (l ++ [⟨endH mk l, (endH mk l + j).tmod ow, endD d0 xs + s - v', endD d0 xs + s + v⟩], xs ++ [endD d0 xs + s], _, _) (M.snoc hlt rfl ⟨h0, h1⟩ h2 how (by omega) ⟨by dsimp only; omega, by dsimp only; omega, by dsimp only; omega, by dsimp only; omega⟩) (by dsimp only; rw [hsn]; omega)
      (slots_cons (by show AV.int .i64 _ = AV.int .i64 _; refine int_eq ?_; rw [endD_snoc]) (slots_cons (by show AV.int .i64 _ = AV.int .i64 _; refine int_eq ?_; rw [endH_snoc]) (slots_cons rfl (slots_cons (by show AV.int .i64 _ = AV.int .i64 _; refine int_eq ?_; dsimp only; rw [hsn]; omega) slots_nil)))) (by exact ⟨rfl, rfl, trivial⟩) (by repeat' (first | exact kept_nil | apply kept_cons | rfl)) (by repeat' (first | exact kept_nil | apply kept_cons | rfl))
  · have hle : (l.length : Int) = n := by omega
    have hch := fun order hp => M.chain (order := order) (lo := d0 - u1) (hi := d0 + u) hp hl7 ⟨hm1, by omega⟩ ⟨by omega, by omega, by omega, by omega⟩
    cases l with
    | nil =>
      have h00 : (([] : List Lnk).length : Int) = 0 := rfl
      repeat' (first
        | with_reducible (first | refine Rd.p ?_ | refine w_alt ?_ ?_ | refine zE ?_ | refine zE0 ?_)
        | with_reducible (first | refine zI fun y hy => ?_ | refine zL ?_ | refine zS ?_ | refine zA fun _ => ?_ | refine zV ?_ | refine zC ?_ | refine zG ?_ | refine zU ?_ | refine zG0 ?_ | refine zU0 ?_ | refine zF ?_)
        | ((with_reducible refine acall_id ?_); refine ACall.box (order0_c _ _) rfl rfl rfl ?_; rintro _ _ rfl)
        | with_reducible (first | refine zX ?_ | refine zD fun _ => ?_ | refine zD0 ?_ | refine zN ?_ | refine zF0 ?_ | refine zX0 ?_ | refine z1 ?_ | refine z2 ?_ | refine z3 ?_ | refine z4 ?_ | refine z5 ?_ | refine z6 ?_ | refine z7 ?_ | refine z8 ?_ | refine y1 ?_ | refine y2 ?_ | refine y3 ?_ | refine y4 ?_ | refine y5 ?_ | refine y6 ?_ | refine y7 ?_ | refine y8 ?_ | refine Rt.p (fun _ => ?_) fun _ => ?_)
        | ((with_reducible apply w_ixM); (focus exact rfl); (focus exact rfl); case' hk => intro y hy) | ((with_reducible (first | apply w_val | apply q_ends)); (focus exact rfl)))
      refine w_loopK [8, 10, 13, 16] [8, 10, 1000] (fun _ : Unit => True) (fun _ => 1) (fun _ => [(17, .int .i64 0)]) (fun _ => []) () trivial ⟨rfl, trivial⟩ trivial ?_
      rintro _ _ e σ
      repeat' (first
        | with_reducible (first | refine Rd.p ?_ | refine w_alt ?_ ?_ | refine zE ?_ | refine zE0 ?_)
        | with_reducible (first | refine zI fun y hy => ?_ | refine zL ?_ | refine zS ?_ | refine zA fun _ => ?_ | refine zV ?_ | refine zC ?_ | refine zG ?_ | refine zU ?_ | refine zG0 ?_ | refine zU0 ?_ | refine zF ?_)
        | with_reducible (first | refine zX ?_ | refine zD fun _ => ?_ | refine zD0 ?_ | refine zN ?_ | refine zF0 ?_ | refine zX0 ?_ | refine z1 ?_ | refine z2 ?_ | refine z3 ?_ | refine z4 ?_ | refine z5 ?_ | refine z6 ?_ | refine z7 ?_ | refine z8 ?_ | refine y1 ?_ | refine y2 ?_ | refine y3 ?_ | refine y4 ?_ | refine y5 ?_ | refine y6 ?_ | refine y7 ?_ | refine y8 ?_ | refine Rt.p (fun _ => ?_) fun _ => ?_)
        | ((with_reducible apply w_ixM); (focus exact rfl); (focus exact rfl); case' hk => intro y hy) | ((with_reducible (first | apply w_val | apply q_ends)); (focus exact rfl)))
      exact ⟨_, ⟨⟨mk, d0 - u1, d0 + u, []⟩, rfl, hch [] ⟨rfl, .nil, fun _ h => by cases h⟩, by simp; omega⟩, rfl⟩
    | cons y0 l0 =>
      have hlp : 1 ≤ (y0 :: l0).length := by simp
      generalize hl : y0 :: l0 = l at *
      repeat' (first
        | with_reducible (first | refine Rd.p ?_ | refine w_alt ?_ ?_ | refine zE ?_ | refine zE0 ?_)
        | with_reducible (first | refine zI fun y hy => ?_ | refine zL ?_ | refine zS ?_ | refine zA fun _ => ?_ | refine zV ?_ | refine zC ?_ | refine zG ?_ | refine zU ?_ | refine zG0 ?_ | refine zU0 ?_ | refine zF ?_)
        | ((with_reducible refine acall_id ?_); refine ACall.box (orderL_c _ _ l.length (by omega)) rfl rfl rfl ?_; rintro _ _ ⟨ol, rfl, holl, hol⟩)
        | with_reducible (first | refine zX ?_ | refine zD fun _ => ?_ | refine zD0 ?_ | refine zN ?_ | refine zF0 ?_ | refine zX0 ?_ | refine z1 ?_ | refine z2 ?_ | refine z3 ?_ | refine z4 ?_ | refine z5 ?_ | refine z6 ?_ | refine z7 ?_ | refine z8 ?_ | refine y1 ?_ | refine y2 ?_ | refine y3 ?_ | refine y4 ?_ | refine y5 ?_ | refine y6 ?_ | refine y7 ?_ | refine y8 ?_ | refine Rt.p (fun _ => ?_) fun _ => ?_)
        | ((with_reducible apply w_ixM); (focus exact rfl); (focus exact rfl); case' hk => intro y hy) | ((with_reducible (first | apply w_val | apply q_ends)); (focus exact rfl)))
      refine w_loopK [8, 10, 13, 16] [8, 1000, 13] (fun x : List Int × List Int × Nat => ol = x.1 ++ x.2.1) (fun x => x.2.1.length) (fun x => [(17, .int .i64 x.1.length)]) (fun x => [(10, (g10, .row [.int .i64 mk, .int .i64 (d0 - u1), .int .i64 (d0 + u), lkcV l x.2.2 x.1]))] ++ lkS6 x.2.2 x.1) ([], ol, 0) rfl ⟨rfl, trivial⟩ (by exact ⟨rfl, trivial⟩) ?_
      rintro ⟨pre, post, g6⟩ hpp e σ
      dsimp only at hpp ⊢
      have hlen := congrArg List.length hpp
      rw [List.length_append] at hlen
      cases post with
      | nil =>
        rw [List.append_nil] at hpp
        simp only [List.length_nil] at hlen
        subst hpp
        cases ol with
        | nil => exfalso; simp at holl; omega
        | cons i0 ol0 =>
          repeat' (first
            | with_reducible (first | refine Rd.p ?_ | refine w_alt ?_ ?_ | refine zE ?_ | refine zE0 ?_)
            | with_reducible (first | refine zI fun y hy => ?_ | refine zL ?_ | refine zS ?_ | refine zA fun _ => ?_ | refine zV ?_ | refine zC ?_ | refine zG ?_ | refine zU ?_ | refine zG0 ?_ | refine zU0 ?_ | refine zF ?_)
            | with_reducible (first | refine zX ?_ | refine zD fun _ => ?_ | refine zD0 ?_ | refine zN ?_ | refine zF0 ?_ | refine zX0 ?_ | refine z1 ?_ | refine z2 ?_ | refine z3 ?_ | refine z4 ?_ | refine z5 ?_ | refine z6 ?_ | refine z7 ?_ | refine z8 ?_ | refine y1 ?_ | refine y2 ?_ | refine y3 ?_ | refine y4 ?_ | refine y5 ?_ | refine y6 ?_ | refine y7 ?_ | refine y8 ?_ | refine Rt.p (fun _ => ?_) fun _ => ?_)
            | ((with_reducible apply w_ixM); (focus exact rfl); (focus exact rfl); case' hk => intro y hy) | ((with_reducible (first | apply w_val | apply q_ends)); (focus exact rfl)))
          exact ⟨_, ⟨⟨mk, d0 - u1, d0 + u, (i0 :: ol0).map (lkAt l)⟩, rfl, hch (i0 :: ol0) hol, by rw [List.length_map, holl]; omega⟩, rfl⟩
      | cons y post =>
        simp only [List.length_cons] at hlen
        have hy := hol.bd y (by rw [hpp]; simp)
        cases pre with
        | nil =>
          repeat' (first
            | with_reducible (first | refine Rd.p ?_ | refine w_alt ?_ ?_ | refine zE ?_ | refine zE0 ?_)
            | (refine w_ixP hpp rfl rfl ?_)
            | (refine w_ixL rfl rfl hy ?_)
            | with_reducible (first | refine zI fun y hy => ?_ | refine zL ?_ | refine zS ?_ | refine zA fun _ => ?_ | refine zV ?_ | refine zC ?_ | refine zG ?_ | refine zU ?_ | refine zG0 ?_ | refine zU0 ?_ | refine zF ?_)
            | with_reducible (first | refine zX ?_ | refine zD fun _ => ?_ | refine zD0 ?_ | refine zN ?_ | refine zF0 ?_ | refine zX0 ?_ | refine z1 ?_ | refine z2 ?_ | refine z3 ?_ | refine z4 ?_ | refine z5 ?_ | refine z6 ?_ | refine z7 ?_ | refine z8 ?_ | refine y1 ?_ | refine y2 ?_ | refine y3 ?_ | refine y4 ?_ | refine y5 ?_ | refine y6 ?_ | refine y7 ?_ | refine y8 ?_ | refine Rt.p (fun _ => ?_) fun _ => ?_)
            | ((with_reducible apply w_ixM); (focus exact rfl); (focus exact rfl); case' hk => intro y hy) | ((with_reducible (first | apply w_val | apply q_ends)); (focus exact rfl)))
          refine q_loop ([y], post, _) hpp (by simp) (slots_cons (by show AV.int .i64 _ = AV.int .i64 _; refine int_eq ?_; simp) slots_nil) (by exact ⟨rfl, rfl, trivial⟩) (by repeat' (first | exact kept_nil | apply kept_cons | rfl)) (by repeat' (first | exact kept_nil | apply kept_cons | rfl))
        | cons z pre =>
          have hsz : (z :: pre ++ [y]).length = (z :: pre).length + 1 := by simp
          repeat' (first
            | with_reducible (first | refine Rd.p ?_ | refine w_alt ?_ ?_ | refine zE ?_ | refine zE0 ?_)
            | (refine w_ixP hpp rfl rfl ?_)
            | (refine w_ixL rfl rfl hy ?_)
            | with_reducible (first | refine zI fun y hy => ?_ | refine zL ?_ | refine zS ?_ | refine zA fun _ => ?_ | refine zV ?_ | refine zC ?_ | refine zG ?_ | refine zU ?_ | refine zG0 ?_ | refine zU0 ?_ | refine zF ?_)
            | with_reducible (first | refine zX ?_ | refine zD fun _ => ?_ | refine zD0 ?_ | refine zN ?_ | refine zF0 ?_ | refine zX0 ?_ | refine z1 ?_ | refine z2 ?_ | refine z3 ?_ | refine z4 ?_ | refine z5 ?_ | refine z6 ?_ | refine z7 ?_ | refine z8 ?_ | refine y1 ?_ | refine y2 ?_ | refine y3 ?_ | refine y4 ?_ | refine y5 ?_ | refine y6 ?_ | refine y7 ?_ | refine y8 ?_ | refine Rt.p (fun _ => ?_) fun _ => ?_)
            | ((with_reducible apply w_ixM); (focus exact rfl); (focus exact rfl); case' hk => intro y hy) | ((with_reducible (first | apply w_val | apply q_ends)); (focus exact rfl)))
          rename_i g7
          have hmp : List.map (lkAt l) (z :: pre) ++ [lkAt l y] = (z :: (pre ++ [y])).map (lkAt l) := by simp
          refine q_loop (z :: (pre ++ [y]), post, g7) (by dsimp only; rw [hpp]; simp) (by simp) (slots_cons (by show AV.int .i64 _ = AV.int .i64 _; refine int_eq ?_; simp) slots_nil) ?_ (by repeat' (first | exact kept_nil | apply kept_cons | rfl)) (by repeat' (first | exact kept_nil | apply kept_cons | rfl))
          refine ⟨?_, rfl, trivial⟩
          show (g10, Res.row [AV.int .i64 mk, AV.int .i64 (d0 - u1), AV.int .i64 (d0 + u), AV.slc 4 (List.map _ (List.map (lkAt l) (z :: pre) ++ [lkAt l y])) _]) = _
          rw [hmp]; rfl
theorem chainOf_c (g : Nat) (w : Int) (k st wd : Int) (hk : 0 ≤ k ∧ k ≤ 7) (hst : 1 ≤ st ∧ st ≤ 10) (hw : 1 ≤ wd ∧ wd ≤ 5) : RawC Try.prog 18 [.ref 1000 g 0, .int .i64 k, .int .i64 st, .int .i64 wd] (BoxS g w) (BoxR g fun av => ∃ c : Chn, av = cA c ∧ chainE c = 0 ∧ c.ls.length ≤ k) := by
  refine RawC.sub (chainO_c g w k st wd hk hst hw) fun a σ' => ?_
  rintro ⟨w', ⟨c, rfl, h1, h2⟩, h3⟩
  refine ⟨cA c, ?_, w', ⟨c, rfl, h1, h2⟩, h3⟩
  refine Sub.agg (.cons (Sub.refl _) (.cons (Sub.refl _) (.cons (Sub.refl _) (.cons ?_ .nil))))
  cases h : c.ls with
  | nil => exact Sub.nil
  | cons y r => exact Sub.refl _
end Go.Abs
