/- A part of the proofs of the laws of this seat: contracts of the functions that they reach, each proved of the program's form in Lean. No condition beyond those that each contract names. -/
import Derived.Test.YtcgcciegekaliaaB0
import Derived.Test.YtcgcciegekaliaaB32
import Derived.Test.YtcgcciegekaliaaB8
set_option linter.unusedVariables false
set_option linter.unusedSimpArgs false
set_option maxRecDepth 20000
set_option maxHeartbeats 4000000
/-! ### Copies of parties that are written -/
namespace Go.Abs
open Go.Proofs
section
variable {P : Program} {α : Type} {row : α → List AV} {sz : Nat}
theorem w_frzP1 {Q : Post} {e : Nat → AV} {σ : Sig} {b : IR} {t1 t2 i g s gb u ub sz2 n1 : Nat} {tg : Tag} {xs : List α} {cu : List AV} (hR : FlatR row sz) (his : i ≠ s) (hiu : i ≠ u) (hn1 : xs.length = n1)
    (h1 : e t1 = .msl i g n1 sz) (h2 : e t2 = .slc sz2 [] tg) (hb : e s = .ref s gb 0) (hu : e u = .ref u ub 0) (hσi : σ i = (g, .row (xs.map row).flatten)) (hσs : σ s = (gb, .row [.msl i g n1 sz, .slc sz2 [] .non])) (hσu : σ u = (ub, .row cu)) (hcu : ∀ i g c, frzL i g c cu = cu)
    (hk : ∀ e' σ', awp P b Q (updL [(s, .ref s gb 0), (u, .ref u ub 0)] e') (updL [(s, (gb, .row [.slc sz (xs.map row) .non, .slc sz2 [] .non])), (u, (ub, .row cu))] σ')) : awp P (.seq (.frz (.t t1)) (.seq (.frz (.t t2)) b)) Q e σ := by
  subst hn1
  have hl1 := hR.flat_len xs
  show frzW (e t1) e σ (seqQ (awp P (.seq (.frz (.t t2)) b) Q) Q .nor)
  rw [h1]
  show (match σ i with | (g', .row c) => g = g' ∧ c.all AV.scal = true ∧ seqQ (awp P (.seq (.frz (.t t2)) b) Q) Q .nor (frzE i g c e) (frzS i g c σ) | _ => False)
  rw [hσi]
  refine ⟨rfl, hR.scals xs, ?_⟩
  have e2 : frzE i g (xs.map row).flatten e t2 = .slc sz2 [] tg := by simp [frzE, h2, frzA]
  show frzW (frzE i g (xs.map row).flatten e t2) (frzE i g (xs.map row).flatten e) (frzS i g (xs.map row).flatten σ) (seqQ (awp P b Q) Q .nor)
  rw [e2]
  have es : frzE i g (xs.map row).flatten e s = .ref s gb 0 := by simp [frzE, hb, frzA, Ne.symm his]
  have eu : frzE i g (xs.map row).flatten e u = .ref u ub 0 := by simp [frzE, hu, frzA, Ne.symm hiu]
  have ss : frzS i g (xs.map row).flatten σ s = (gb, .row [.slc sz (xs.map row) .non, .slc sz2 [] .non]) := by
    simp [frzS, Ne.symm his, hσs, frzR, frzL, frzA, hl1, hR.chunk]
  have su : frzS i g (xs.map row).flatten σ u = (ub, .row cu) := by
    simp [frzS, Ne.symm hiu, hσu, frzR, hcu]
  have hk2 := hk (frzE i g (xs.map row).flatten e) (frzS i g (xs.map row).flatten σ)
  have x1 : slots [(s, .ref s gb 0), (u, .ref u ub 0)] (frzE i g (xs.map row).flatten e) := ⟨es, eu, trivial⟩
  have x2 : slots [(s, (gb, .row [.slc sz (xs.map row) .non, .slc sz2 [] .non])), (u, (ub, .row cu))] (frzS i g (xs.map row).flatten σ) := ⟨ss, su, trivial⟩
  rw [updL_slots x1, updL_slots x2] at hk2
  exact hk2
end
/-- aloeswood/aloeswoodkit.OwnParty -/
def ir30v : IFn :=
  ⟨12, [(2, some (2, true))], (.seq (.ops [⟨(some 1), none, (.box 2 (.t 0))⟩,
    ⟨(some 2), none, (.new [.nsl, .nsl])⟩])
  (.seq (.ops [⟨(some 3), none, (.bsl 5 [] [])⟩,
    ⟨(some 4), none, (.flA 0 (.t 1))⟩,
    ⟨(some 5), none, (.ld 1 false (.t 4))⟩,
    ⟨(some 7), none, (.bsl 4 [] [])⟩,
    ⟨(some 8), none, (.flA 1 (.t 1))⟩,
    ⟨(some 9), none, (.ld 1 false (.t 8))⟩,
    ⟨(some 6), none, (.apm 5 48 (.t 3) (.t 5) 6)⟩,
    ⟨none, none, (.chk 1 false (.t 8) 9)⟩,
    ⟨(some 10), none, (.apm 4 32 (.t 7) (.t 9) 10)⟩,
    ⟨(some 11), none, (.bld [.nsl, .nsl] [(0, 1, (.t 6)), (1, 1, (.t 10))])⟩,
    ⟨none, none, (.st 2 (.t 2) (.t 11))⟩])
  .ret))⟩
def hint30v (P : Program) : Hint := { site := [], nils := [], frz := [], mve := [], wr := [6, 10] }

theorem ownPartyW_c (g0 : Guest) (gs : List Guest) (r0 : Rule) (rs : List Rule) (hg : gs.length ≤ 1000000) (hr : rs.length ≤ 1000000) : RawC Try.prog 30 [pA (g0 :: gs) (r0 :: rs)] (sg []) (SR (fun (x : Nat × Nat) v => v = .agg [.msl 6 x.1 (g0 :: gs).length 5, .msl 10 x.2 (r0 :: rs).length 4]) (fun x => [(6, (x.1, .row ((g0 :: gs).map Guest.row).flatten)), (10, (x.2, .row ((r0 :: rs).map Rule.row).flatten))])) := by
  refine RawC.walk (H := hint30v Try.prog) ir30v Try.func30 rfl rfl rfl ?_
  unfold ir30v
  repeat' (first
    | with_reducible (first | refine Rd.p ?_ | refine zO ?_ | refine zE0 ?_)
    | (first | (refine w_apmR (row := Guest.row) rfl rfl (by simp; omega) ?_; intro _) | (refine w_apmR (row := Rule.row) rfl rfl (by simp; omega) ?_; intro _))
    | with_reducible (first | refine zI fun y hy => ?_ | refine zL ?_ | refine zS ?_ | refine zA fun _ => ?_ | refine zV ?_ | refine zC ?_ | refine zG ?_ | refine zU ?_ | refine zG0 ?_ | refine zU0 ?_ | refine zF ?_)
    | with_reducible (first | refine zX ?_ | refine zD fun _ => ?_ | refine zD0 ?_ | refine zN ?_ | refine zF0 ?_ | refine zX0 ?_ | refine z1 ?_ | refine z2 ?_ | refine z3 ?_ | refine z4 ?_ | refine z5 ?_ | refine z6 ?_ | refine z7 ?_ | refine z8 ?_ | refine y1 ?_ | refine y2 ?_ | refine y3 ?_ | refine y4 ?_ | refine y5 ?_ | refine y6 ?_ | refine y7 ?_ | refine y8 ?_ | refine Rt.p (fun _ => ?_) fun _ => ?_)
    | ((with_reducible apply w_ixM); (focus exact rfl); (focus exact rfl); case' hk => intro y hy) | ((with_reducible (first | apply w_val | apply q_ends)); (focus exact rfl)))
  exact ⟨(_, _), rfl, rfl, rfl, trivial⟩
theorem ownPartyW0_c (g0 : Guest) (gs : List Guest) (hg : gs.length ≤ 1000000) : RawC Try.prog 30 [pA (g0 :: gs) []] (sg []) (SR (fun (x : Nat) v => v = .agg [.msl 6 x (g0 :: gs).length 5, .slc 4 [] .full]) (fun x => [(6, (x, .row ((g0 :: gs).map Guest.row).flatten))])) := by
  refine RawC.walk (H := hint30v Try.prog) ir30v Try.func30 rfl rfl rfl ?_
  unfold ir30v
  repeat' (first
    | with_reducible (first | refine Rd.p ?_ | refine zO ?_ | refine zE0 ?_)
    | (refine w_apmR (row := Guest.row) rfl rfl (by simp; omega) ?_; intro _)
    | with_reducible (first | refine zI fun y hy => ?_ | refine zL ?_ | refine zS ?_ | refine zA fun _ => ?_ | refine zV ?_ | refine zC ?_ | refine zG ?_ | refine zU ?_ | refine zG0 ?_ | refine zU0 ?_ | refine zF ?_)
    | with_reducible (first | refine zX ?_ | refine zD fun _ => ?_ | refine zD0 ?_ | refine zN ?_ | refine zF0 ?_ | refine zX0 ?_ | refine z1 ?_ | refine z2 ?_ | refine z3 ?_ | refine z4 ?_ | refine z5 ?_ | refine z6 ?_ | refine z7 ?_ | refine z8 ?_ | refine y1 ?_ | refine y2 ?_ | refine y3 ?_ | refine y4 ?_ | refine y5 ?_ | refine y6 ?_ | refine y7 ?_ | refine y8 ?_ | refine Rt.p (fun _ => ?_) fun _ => ?_)
    | ((with_reducible apply w_ixM); (focus exact rfl); (focus exact rfl); case' hk => intro y hy) | ((with_reducible (first | apply w_val | apply q_ends)); (focus exact rfl)))
  exact ⟨_, rfl, rfl, trivial⟩
end Go.Abs
