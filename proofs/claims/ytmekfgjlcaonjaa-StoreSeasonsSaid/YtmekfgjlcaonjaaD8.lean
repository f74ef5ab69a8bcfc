/- A part of the proofs of the laws of this seat: contracts of the functions that they reach, each proved of the program's form in Lean. No condition beyond those that each contract names. -/
import Derived.Test.YtmekfgjlcaonjaaD7
import Derived.Test.YtmekfgjlcaonjaaD1
import Derived.Test.YtmekfgjlcaonjaaC4
import Derived.Test.YtmekfgjlcaonjaaC3
import Derived.Test.YtmekfgjlcaonjaaC2
import Derived.Test.YtmekfgjlcaonjaaC1
import Derived.Test.YtmekfgjlcaonjaaB0
import Derived.Test.YtmekfgjlcaonjaaB1
import Derived.Test.YtmekfgjlcaonjaaB9
import Derived.Test.YtmekfgjlcaonjaaB11
import Derived.Test.YtmekfgjlcaonjaaB20
import Derived.Test.YtmekfgjlcaonjaaB32
set_option linter.unusedVariables false
set_option linter.unusedSimpArgs false
set_option maxRecDepth 20000
set_option maxHeartbeats 4000000
/-! ### The law of narrower days -/
namespace Go.Abs
open Go.Proofs
def Lnk.row (g : Lnk) : List AV := [.int .i64 g.f, .int .i64 g.t, .int .i64 g.lo, .int .i64 g.hi]
theorem lnkR : FlatR Lnk.row 4 := ⟨fun _ => rfl, fun _ => rfl, fun _ => rfl, fun _ _ _ _ => rfl, fun _ _ => rfl⟩
section
variable {P : Program}
theorem rows_mid (pre post : List Lnk) (y : Lnk) : ((pre ++ y :: post).map Lnk.row).flatten = (pre.map Lnk.row).flatten ++ (.int .i64 y.f :: .int .i64 y.t :: .int .i64 y.lo :: .int .i64 y.hi :: (post.map Lnk.row).flatten) := by
  rw [List.map_append, List.flatten_append, List.map_cons, List.flatten_cons]; rfl
theorem rows_drop (pre post : List Lnk) (y : Lnk) : ((((pre ++ y :: post).map Lnk.row).flatten.drop (pre.length * 4 + 2)).take 2) = [.int .i64 y.lo, .int .i64 y.hi] := by
  rw [rows_mid, ← lnkR.flat_len pre, ← List.drop_drop, List.drop_left]; rfl
theorem rows_set (pre post : List Lnk) (y : Lnk) (a b : Int) : setL ((pre ++ y :: post).map Lnk.row).flatten (pre.length * 4 + 2) [.int .i64 a, .int .i64 b] = ((pre ++ ⟨y.f, y.t, a, b⟩ :: post).map Lnk.row).flatten := by
  rw [rows_mid, rows_mid, ← lnkR.flat_len pre]
  simp only [setL]
  rw [List.set_append_right _ _ (by omega), List.set_append_right _ _ (by omega)]
  have e1 : (pre.map Lnk.row).flatten.length + 2 - (pre.map Lnk.row).flatten.length = 2 := by omega
  have e2 : (pre.map Lnk.row).flatten.length + 2 + 1 - (pre.map Lnk.row).flatten.length = 3 := by omega
  rw [e1, e2]; rfl
theorem w_ldM2 {K : (Nat → AV) → Sig → Prop} {e : Nat → AV} {σ : Sig} {x : IOpd} {d : Nat} {r : List IStep} {i g off : Nat} {pre post : List Lnk} {y : Lnk} (hx : x.ev e = .ref i g off) (hσ : σ i = (g, .row ((pre ++ y :: post).map Lnk.row).flatten)) (ho : off = pre.length * 4 + 2)
    (hk : stepsW P r K (upd e d (.agg [.int .i64 y.lo, .int .i64 y.hi])) σ) : stepsW P (⟨some d, none, .ld 2 true x⟩ :: r) K e σ := by
  have hlen := lnkR.flat_len (pre ++ y :: post)
  refine w_val (p := g = g ∧ off + 2 ≤ ((pre ++ y :: post).map Lnk.row).flatten.length) (v := .agg [.int .i64 y.lo, .int .i64 y.hi]) ?_ ⟨rfl, by rw [hlen, ho, List.length_append, List.length_cons]; omega⟩ hk
  show ldO 2 true σ (x.ev e) = _
  rw [hx]
  simp only [ldO, hσ, partO, ho, rows_drop]
theorem w_stM2 {K : (Nat → AV) → Sig → Prop} {e : Nat → AV} {σ : Sig} {x v : IOpd} {r : List IStep} {i g off : Nat} {pre post : List Lnk} {y : Lnk} {a b : Int} (hx : x.ev e = .ref i g off) (hv : v.ev e = .agg [.int .i64 a, .int .i64 b]) (hσ : σ i = (g, .row ((pre ++ y :: post).map Lnk.row).flatten)) (ho : off = pre.length * 4 + 2)
    (hk : stepsW P r K e (upd σ i (g, .row ((pre ++ ⟨y.f, y.t, a, b⟩ :: post).map Lnk.row).flatten))) : stepsW P (⟨none, none, .st 2 x v⟩ :: r) K e σ := by
  have hlen := lnkR.flat_len (pre ++ y :: post)
  refine w_det0 (p := g = g ∧ ([AV.int .i64 a, AV.int .i64 b].length = 2 ∧ [AV.int .i64 a, AV.int .i64 b].all AV.scal = true) ∧ off + 2 ≤ ((pre ++ y :: post).map Lnk.row).flatten.length) (v := .junk) (σ' := upd σ i (g, .row (setL ((pre ++ y :: post).map Lnk.row).flatten off [.int .i64 a, .int .i64 b]))) (fun _ => ?_) ⟨rfl, ⟨rfl, rfl⟩, by rw [hlen, ho, List.length_append, List.length_cons]; omega⟩ ?_
  · show stO 2 σ (v.ev e) (x.ev e) = _
    rw [hx, hv]
    simp only [stO, cellsO, hσ]
  · rw [ho, rows_set]; exact hk
theorem frzA_mslR {α : Type} {row : α → List AV} {sz : Nat} (hR : FlatR row sz) {i g n : Nat} {xs : List α} (hn : xs.length = n) : frzA i g (xs.map row).flatten (.msl i g n sz) = .slc sz (xs.map row) .non := by
  subst hn; rw [frzA, if_pos ⟨rfl, rfl, (hR.flat_len xs).symm⟩, hR.chunk]
theorem w_frzSl {Q : Post} {e : Nat → AV} {σ : Sig} {t sz : Nat} {es : List (List AV)} {tg : Tag} (h : e t = .slc sz es tg) (hk : Q .nor e σ) : awp P (.frz (.t t)) Q e σ := by
  show frzW (e t) e σ (Q .nor)
  rw [h]; exact hk
theorem w_ixE {K : (Nat → AV) → Sig → Prop} {e : Nat → AV} {σ : Sig} {α : Type} {f : α → List AV} {l : List α} {d sz : Nat} {t : Tag} {x i : IOpd} {r : List IStep} {k : IntKind} {n : Nat} {y : α} (hy : l[n]? = some y) (hx : x.ev e = .slc sz (l.map f) t) (hi : i.ev e = .int k (n : Int))
    (hk : stepsW P r K (upd e d (.pin (f y))) σ) : stepsW P (⟨some d, none, .ixA sz x i⟩ :: r) K e σ := by
  obtain ⟨hn, hy'⟩ := List.getElem?_eq_some_iff.1 hy
  refine w_ixM hx hi (by omega) fun z hz => ?_
  rw [Int.toNat_natCast, hy] at hz
  obtain rfl : y = z := by simpa using hz
  exact hk
end
/-- aloeswood/aloeswoodkit.OwnChain -/
def ir21v : IFn :=
  ⟨9, [(2, some (4, true))], (.seq (.ops [⟨(some 1), none, (.box 4 (.t 0))⟩,
    ⟨(some 2), none, (.new [(.int .i64 0), (.int .i64 0), (.int .i64 0), .nsl])⟩])
  (.seq (.ops [⟨(some 3), none, (.bsl 4 [] [])⟩,
    ⟨(some 4), none, (.flA 3 (.t 1))⟩,
    ⟨(some 5), none, (.ld 1 false (.t 4))⟩,
    ⟨(some 6), none, (.apm 4 32 (.t 3) (.t 5) 6)⟩,
    ⟨(some 7), none, (.flA 3 (.t 1))⟩,
    ⟨none, none, (.st 1 (.t 7) (.t 6))⟩])
  (.seq (.ops [⟨(some 8), none, (.ld 4 true (.t 1))⟩,
    ⟨none, none, (.st 4 (.t 2) (.t 8))⟩])
  .ret)))⟩
def hint21v (P : Program) : Hint := { site := [], nils := [], frz := [], mve := [], wr := [6] }

/-- (*aloeswood/aloeswoodkit.Box).Part -/
def ir38 : IFn :=
  ⟨20, [(4, some (2, true))], (.seq (.ops [⟨(some 3), none, (.box 2 (.t 1))⟩,
    ⟨(some 4), none, (.new [(.int .i64 0), (.int .i64 0)])⟩])
  (.seq (.ops [⟨(some 7), none, (.mov (.t 0))⟩,
    ⟨(some 8), none, (.ld 2 true (.t 3))⟩,
    ⟨(some 10), none, (.mov (.t 0))⟩,
    ⟨(some 11), none, (.ld 2 true (.t 3))⟩,
    ⟨(some 9), none, (.callF 89 [(.t 7), (.t 8)])⟩,
    ⟨none, none, (.chk 2 true (.t 3) 11)⟩,
    ⟨(some 12), none, (.callF 89 [(.t 10), (.t 11)])⟩,
    ⟨(some 5), none, (.mov (.t 9))⟩,
    ⟨(some 6), none, (.mov (.t 12))⟩])
  (.seq (.ops [⟨(some 13), none, (.mov (.t 5))⟩,
    ⟨(some 14), none, (.mov (.t 6))⟩,
    ⟨(some 15), none, (.mxi false (.t 13) (.t 14))⟩,
    ⟨(some 16), none, (.mov (.t 5))⟩,
    ⟨(some 17), none, (.mov (.t 6))⟩,
    ⟨(some 18), none, (.mxi true (.t 16) (.t 17))⟩,
    ⟨(some 19), none, (.bld [(.int .i64 0), (.int .i64 0)] [(0, 1, (.t 15)), (1, 1, (.t 18))])⟩,
    ⟨none, none, (.st 2 (.t 4) (.t 19))⟩])
  .ret)))⟩
def hint38 (P : Program) : Hint := {}

/-- (*aloeswood/aloeswoodkit.Box).In -/
def ir89 : IFn :=
  ⟨21, [(4, none)], (.seq (.ops [⟨(some 3), none, (.box 2 (.t 1))⟩,
    ⟨(some 4), none, (.mov (.k (.int .i64 0)))⟩])
  (.seq (.seq (.ops [⟨(some 5), none, (.mov (.t 0))⟩,
    ⟨(some 6), none, (.callF 20 [(.t 5), (.k (.int .i64 4))])⟩])
  (.blk 0 (.seq (.ops [⟨(some 8), none, (.bin .eql (.t 6) (.k (.int .i64 0)))⟩,
      ⟨(some 7), none, (.mov (.t 8))⟩])
    (.cnd (.t 7)
      (.seq (.ops [⟨(some 9), none, (.flA 0 (.t 3))⟩,
        ⟨(some 10), none, (.ld 1 false (.t 9))⟩,
        ⟨(some 4), none, (.mov (.t 10))⟩])
      .ret)
      (.seq (.ops [⟨(some 12), none, (.bin .eql (.t 6) (.k (.int .i64 1)))⟩,
        ⟨(some 11), none, (.mov (.t 12))⟩])
      (.cnd (.t 11)
        (.seq (.ops [⟨(some 13), none, (.flA 1 (.t 3))⟩,
          ⟨(some 14), none, (.ld 1 false (.t 13))⟩,
          ⟨(some 4), none, (.mov (.t 14))⟩])
        .ret)
        .skip))))))
  (.seq (.ops [⟨(some 15), none, (.mov (.t 0))⟩,
    ⟨(some 16), none, (.flA 0 (.t 3))⟩,
    ⟨(some 17), none, (.ld 1 false (.t 16))⟩,
    ⟨(some 18), none, (.flA 1 (.t 3))⟩,
    ⟨(some 19), none, (.ld 1 false (.t 18))⟩,
    ⟨(some 20), none, (.callF 74 [(.t 15), (.t 17), (.t 19)])⟩,
    ⟨(some 4), none, (.mov (.t 20))⟩])
  .ret)))⟩
def hint89 (P : Program) : Hint := {}

/-- aloeswood/aloeswoodkit.Within -/
def ir39 : IFn :=
  ⟨17, [(4, none)], (.seq (.ops [⟨(some 2), none, (.box 2 (.t 0))⟩,
    ⟨(some 3), none, (.box 2 (.t 1))⟩,
    ⟨(some 4), none, (.mov (.k (.bool false)))⟩])
  (.seq (.ops [⟨(some 5), none, (.flA 0 (.t 2))⟩,
    ⟨(some 6), none, (.ld 1 false (.t 5))⟩,
    ⟨(some 7), none, (.flA 0 (.t 3))⟩,
    ⟨(some 8), none, (.ld 1 false (.t 7))⟩,
    ⟨(some 9), none, (.bin .geq (.t 6) (.t 8))⟩,
    ⟨(some 10), none, (.mov (.t 9))⟩,
    ⟨(some 11), (some (10, true)), (.flA 1 (.t 2))⟩,
    ⟨(some 12), (some (10, true)), (.ld 1 false (.t 11))⟩,
    ⟨(some 13), (some (10, true)), (.flA 1 (.t 3))⟩,
    ⟨(some 14), (some (10, true)), (.ld 1 false (.t 13))⟩,
    ⟨(some 15), (some (10, true)), (.bin .leq (.t 12) (.t 14))⟩,
    ⟨(some 16), none, (.pick (.t 10) (.t 15) (.k (.bool false)))⟩,
    ⟨(some 4), none, (.mov (.t 16))⟩])
  .ret))⟩
def hint39 (P : Program) : Hint := {}

theorem ownChainW_c (mk lo hi : Int) (y : Lnk) (l : List Lnk) (hl : l.length ≤ 1000) : RawC Try.prog 21 [.agg [.int .i64 mk, .int .i64 lo, .int .i64 hi, .slc 4 ((y :: l).map Lnk.row) .non]] (sg []) (SR (fun (g : Nat) v => v = .agg [.int .i64 mk, .int .i64 lo, .int .i64 hi, .msl 6 g (y :: l).length 4]) (fun g => [(6, (g, .row ((y :: l).map Lnk.row).flatten))])) := by
  refine RawC.walk (H := hint21v Try.prog) ir21v Try.func21 rfl rfl rfl ?_
  unfold ir21v
  repeat' (first
    | with_reducible (first | refine Rd.p ?_ | refine w_alt ?_ ?_ | refine zO ?_ | refine zE0 ?_)
    | (refine w_apmR (x0 := y) (xs := l) rfl rfl (by simp; omega) ?_; intro _)
    | with_reducible (first | refine zI fun y hy => ?_ | refine zL ?_ | refine zS ?_ | refine zA fun _ => ?_ | refine zV ?_ | refine zC ?_ | refine zG ?_ | refine zU ?_ | refine zG0 ?_ | refine zU0 ?_ | refine zF ?_)
    | with_reducible (first | refine zX ?_ | refine zD fun _ => ?_ | refine zD0 ?_ | refine zN ?_ | refine zF0 ?_ | refine zX0 ?_ | refine z1 ?_ | refine z2 ?_ | refine z3 ?_ | refine z4 ?_ | refine z5 ?_ | refine z6 ?_ | refine z7 ?_ | refine z8 ?_ | refine y1 ?_ | refine y2 ?_ | refine y3 ?_ | refine y4 ?_ | refine y5 ?_ | refine y6 ?_ | refine y7 ?_ | refine y8 ?_ | refine Rt.p (fun _ => ?_) fun _ => ?_)
    | ((with_reducible apply w_ixM); (focus exact rfl); (focus exact rfl); case' hk => intro y hy) | ((with_reducible (first | apply w_val | apply q_ends)); (focus exact rfl)))
  exact ⟨_, rfl, rfl, trivial⟩
theorem ownChain0_c (mk lo hi : Int) : RawC Try.prog 21 [.agg [.int .i64 mk, .int .i64 lo, .int .i64 hi, .slc 4 [] .non]] (sg []) (SR (fun (_ : Unit) v => v = .agg [.int .i64 mk, .int .i64 lo, .int .i64 hi, .slc 4 [] .full]) (fun _ => [])) := by
  refine RawC.walk (H := hint21v Try.prog) ir21v Try.func21 rfl rfl rfl ?_
  unfold ir21v
  repeat' (first
    | with_reducible (first | refine Rd.p ?_ | refine w_alt ?_ ?_ | refine zO ?_ | refine zE0 ?_)
    | with_reducible (first | refine zI fun y hy => ?_ | refine zL ?_ | refine zS ?_ | refine zA fun _ => ?_ | refine zV ?_ | refine zC ?_ | refine zG ?_ | refine zU ?_ | refine zG0 ?_ | refine zU0 ?_ | refine zF ?_)
    | with_reducible (first | refine zX ?_ | refine zD fun _ => ?_ | refine zD0 ?_ | refine zN ?_ | refine zF0 ?_ | refine zX0 ?_ | refine z1 ?_ | refine z2 ?_ | refine z3 ?_ | refine z4 ?_ | refine z5 ?_ | refine z6 ?_ | refine z7 ?_ | refine z8 ?_ | refine y1 ?_ | refine y2 ?_ | refine y3 ?_ | refine y4 ?_ | refine y5 ?_ | refine y6 ?_ | refine y7 ?_ | refine y8 ?_ | refine Rt.p (fun _ => ?_) fun _ => ?_)
    | ((with_reducible apply w_ixM); (focus exact rfl); (focus exact rfl); case' hk => intro y hy) | ((with_reducible (first | apply w_val | apply q_ends)); (focus exact rfl)))
  exact ⟨(), rfl, trivial⟩
theorem ownChainN_c (c : Chn) (h : c.ls ≠ []) (hl : c.ls.length ≤ 1000) : RawC Try.prog 21 [cA c] (sg []) (SR (fun (g : Nat) v => v = .agg [.int .i64 c.maker, .int .i64 c.lo, .int .i64 c.hi, .msl 6 g c.ls.length 4]) (fun g => [(6, (g, .row (c.ls.map Lnk.row).flatten))])) := by
  obtain ⟨mk, lo, hi, ls⟩ := c
  cases ls with
  | nil => exact absurd rfl h
  | cons y l => exact ownChainW_c mk lo hi y l (by simp at hl; omega)
theorem ownChainE_c (c : Chn) (h : c.ls = []) : RawC Try.prog 21 [cA c] (sg []) (SR (fun (_ : Unit) v => v = .agg [.int .i64 c.maker, .int .i64 c.lo, .int .i64 c.hi, .slc 4 (lR []) .non]) (fun _ => [])) := by
  obtain ⟨mk, lo, hi, ls⟩ := c
  obtain rfl : ls = [] := h
  refine RawC.sub (ownChain0_c mk lo hi) fun a s => ?_
  rintro ⟨u, rfl, _⟩
  exact ⟨_, Sub.agg (.cons (Sub.refl _) (.cons (Sub.refl _) (.cons (Sub.refl _) (.cons Sub.tag2 .nil)))), u, rfl, trivial⟩
theorem w_frzSlK {P : Program} {Q : Post} {e : Nat → AV} {σ : Sig} {t sz : Nat} {es : List (List AV)} {tg : Tag} (F : List (Nat × AV)) (S : List (Nat × (Nat × Res))) (h : e t = .slc sz es tg) (hF : slots F e) (hS : slots S σ) (hk : ∀ e' σ', Q .nor (updL F e') (updL S σ')) : awp P (.frz (.t t)) Q e σ := by
  refine w_frzSl h ?_
  have := hk e σ
  rwa [updL_slots hF, updL_slots hS] at this
theorem in_c9 (g : Nat) (w a b : Int) (h : -1000000 < a ∧ a ≤ b ∧ b < 1000000) : RawC Try.prog 89 [.ref 1000 g 0, .agg [.int .i64 a, .int .i64 b]] (BoxS g w) (BoxR g fun av => ∃ k, av = .int .i64 k ∧ a ≤ k ∧ k ≤ b) := by
  refine RawC.walk (H := hint89 Try.prog) ir89 Try.func89 rfl rfl rfl ?_
  unfold ir89
  repeat' (first
    | with_reducible (first | refine Rd.p ?_ | refine w_alt ?_ ?_ | refine zE ?_ | refine zE0 ?_)
    | with_reducible (first | refine zI fun y hy => ?_ | refine zL ?_ | refine zS ?_ | refine zA fun _ => ?_ | refine zV ?_ | refine zC ?_ | refine zG ?_ | refine zU ?_ | refine zG0 ?_ | refine zU0 ?_ | refine zF ?_)
    | ((with_reducible refine acall_id ?_); refine ACall.box (upp_c _ _ 4 (by omega) (by omega)) rfl rfl rfl ?_; rintro _ _ ⟨k, rfl, hk1, hk2⟩)
    | ((with_reducible refine acall_id ?_); refine ACall.box (any_c _ _ a b (by omega) (by omega) (by omega) (by omega)) rfl rfl rfl ?_; rintro _ _ ⟨m, rfl, hm1, hm2⟩)
    | with_reducible (first | refine zX ?_ | refine zD fun _ => ?_ | refine zD0 ?_ | refine zN ?_ | refine zF0 ?_ | refine zX0 ?_ | refine z1 ?_ | refine z2 ?_ | refine z3 ?_ | refine z4 ?_ | refine z5 ?_ | refine z6 ?_ | refine z7 ?_ | refine z8 ?_ | refine y1 ?_ | refine y2 ?_ | refine y3 ?_ | refine y4 ?_ | refine y5 ?_ | refine y6 ?_ | refine y7 ?_ | refine y8 ?_ | refine Rt.p (fun _ => ?_) fun _ => ?_)
    | ((with_reducible apply w_ixM); (focus exact rfl); (focus exact rfl); case' hk => intro y hy) | ((with_reducible (first | apply w_val | apply q_ends)); (focus exact rfl)))
  · exact ⟨_, ⟨a, rfl, by omega, by omega⟩, rfl⟩
  · exact ⟨_, ⟨b, rfl, by omega, by omega⟩, rfl⟩
  · exact ⟨_, ⟨m, rfl, by omega, by omega⟩, rfl⟩
theorem part_c9 (g : Nat) (w a b : Int) (h : -1000000 < a ∧ a ≤ b ∧ b < 1000000) : RawC Try.prog 38 [.ref 1000 g 0, .agg [.int .i64 a, .int .i64 b]] (BoxS g w) (BoxR g fun av => ∃ m n, av = .agg [.int .i64 m, .int .i64 n] ∧ a ≤ m ∧ m ≤ n ∧ n ≤ b) := by
  refine RawC.walk (H := hint38 Try.prog) ir38 Try.func38 rfl rfl rfl ?_
  unfold ir38
  repeat' (first
    | with_reducible (first | refine Rd.p ?_ | refine w_alt ?_ ?_ | refine zE ?_ | refine zE0 ?_)
    | with_reducible (first | refine zI fun y hy => ?_ | refine zL ?_ | refine zS ?_ | refine zA fun _ => ?_ | refine zV ?_ | refine zC ?_ | refine zG ?_ | refine zU ?_ | refine zG0 ?_ | refine zU0 ?_ | refine zF ?_)
    | ((with_reducible refine acall_id ?_); refine ACall.box (in_c9 _ _ a b h) rfl rfl rfl ?_; rintro _ _ ⟨k, rfl, hk1, hk2⟩)
    | with_reducible (first | refine zX ?_ | refine zD fun _ => ?_ | refine zD0 ?_ | refine zN ?_ | refine zF0 ?_ | refine zX0 ?_ | refine z1 ?_ | refine z2 ?_ | refine z3 ?_ | refine z4 ?_ | refine z5 ?_ | refine z6 ?_ | refine z7 ?_ | refine z8 ?_ | refine y1 ?_ | refine y2 ?_ | refine y3 ?_ | refine y4 ?_ | refine y5 ?_ | refine y6 ?_ | refine y7 ?_ | refine y8 ?_ | refine Rt.p (fun _ => ?_) fun _ => ?_)
    | ((with_reducible apply w_ixM); (focus exact rfl); (focus exact rfl); case' hk => intro y hy) | ((with_reducible (first | apply w_val | apply q_ends)); (focus exact rfl)))
  all_goals exact ⟨_, ⟨_, _, rfl, by omega, by omega, by omega⟩, rfl⟩
theorem within9_c (a b c d : Int) : Fn0 Try.prog 39 [.agg [.int .i64 a, .int .i64 b], .agg [.int .i64 c, .int .i64 d]] (fun v => v = .bool (decide (c ≤ a) && decide (b ≤ d))) := by
  refine RawC.walk (H := hint39 Try.prog) ir39 Try.func39 rfl rfl rfl ?_
  unfold ir39
  repeat' (first
    | with_reducible (first | refine Rd.p ?_ | refine w_alt ?_ ?_ | refine zE ?_ | refine zE0 ?_)
    | with_reducible (first | refine zI fun y hy => ?_ | refine zL ?_ | refine zS ?_ | refine zA fun _ => ?_ | refine zV ?_ | refine zC ?_ | refine zG ?_ | refine zU ?_ | refine zG0 ?_ | refine zU0 ?_ | refine zF ?_)
    | with_reducible (first | refine zX ?_ | refine zD fun _ => ?_ | refine zD0 ?_ | refine zN ?_ | refine zF0 ?_ | refine zX0 ?_ | refine z1 ?_ | refine z2 ?_ | refine z3 ?_ | refine z4 ?_ | refine z5 ?_ | refine z6 ?_ | refine z7 ?_ | refine z8 ?_ | refine y1 ?_ | refine y2 ?_ | refine y3 ?_ | refine y4 ?_ | refine y5 ?_ | refine y6 ?_ | refine y7 ?_ | refine y8 ?_ | refine Rt.p (fun _ => ?_) fun _ => ?_)
    | ((with_reducible apply w_ixM); (focus exact rfl); (focus exact rfl); case' hk => intro y hy) | ((with_reducible (first | apply w_val | apply q_ends)); (focus exact rfl)))
  · rename_i h; show AV.bool _ = AV.bool _; simp [h]
  · rename_i h; show AV.bool _ = AV.bool _; simp [h]
end Go.Abs
