/- A part of the proofs of the laws of this seat: contracts of the functions that they reach, each proved of the program's form in Lean. No condition beyond those that each contract names. -/
import Derived.Test.YtcgcciegekaliaaB0
import Derived.Test.YtcgcciegekaliaaB32
import Derived.Test.YtcgcciegekaliaaB8
set_option linter.unusedVariables false
set_option linter.unusedSimpArgs false
set_option maxRecDepth 20000
set_option maxHeartbeats 4000000
/-! ### The party turned round -/
namespace Go.Abs
open Go.Proofs
section
variable {P : Program} {α : Type} {row : α → List AV} {sz : Nat}
theorem w_frzP1 {Q : Post} {e : Nat → AV} {σ : Sig} {b : IR} {t1 t2 i g s gb u ub sz2 n1 : Nat} {tg : Tag} {xs : List α} {cu : List AV} (hR : FlatR row sz) (his : i ≠ s) (hiu : i ≠ u) (hn1 : xs.length = n1)
    (h1 : e t1 = .msl i g n1 sz) (h2 : e t2 = .slc sz2 [] tg) (hb : e s = .ref s gb 0) (hu : e u = .ref u ub 0) (hσi : σ i = (g, .row (xs.map row).flatten)) (hσs : σ s = (gb, .row [.msl i g n1 sz, .slc sz2 [] .non])) (hσu : σ u = (ub, .row cu)) (hcu : ∀ i g c, frzL i g c cu = cu)
    (hk : ∀ e' σ', awp P b Q (updL [(s, .ref s gb 0), (u, .ref u ub 0)] e') (updL [(s, (gb, .row [.slc sz (xs.map row) .non, .slc sz2 [] .non])), (u, (ub, .row cu))] σ')) : awp P (.seq (.frz (.t t1)) (.seq (.frz (.t t2)) b)) Q e σ := by
  subst hn1
  have hl1 := hR.flat_len xs
  show frzW (e t1) e σ (seqQ (awp P (.seq (.frz (.t t2)) b) Q) Q .nor)
  rw [h1]
  show (match σ i with | (g', .row c) => g = g' ∧ c.all AV.scal = true ∧ seqQ (awp P (.seq (.frz (.t t2)) b) Q) Q .nor (frzE i g c e) (frzS i g c σ) | _ => False)
  rw [hσi]
  refine ⟨rfl, hR.scals xs, ?_⟩
  have e2 : frzE i g (xs.map row).flatten e t2 = .slc sz2 [] tg := by simp [frzE, h2, frzA]
  show frzW (frzE i g (xs.map row).flatten e t2) (frzE i g (xs.map row).flatten e) (frzS i g (xs.map row).flatten σ) (seqQ (awp P b Q) Q .nor)
  rw [e2]
  have es : frzE i g (xs.map row).flatten e s = .ref s gb 0 := by simp [frzE, hb, frzA, Ne.symm his]
  have eu : frzE i g (xs.map row).flatten e u = .ref u ub 0 := by simp [frzE, hu, frzA, Ne.symm hiu]
  have ss : frzS i g (xs.map row).flatten σ s = (gb, .row [.slc sz (xs.map row) .non, .slc sz2 [] .non]) := by
    simp [frzS, Ne.symm his, hσs, frzR, frzL, frzA, hl1, hR.chunk]
  have su : frzS i g (xs.map row).flatten σ u = (ub, .row cu) := by
    simp [frzS, Ne.symm hiu, hσu, frzR, hcu]
  have hk2 := hk (frzE i g (xs.map row).flatten e) (frzS i g (xs.map row).flatten σ)
  have x1 : slots [(s, .ref s gb 0), (u, .ref u ub 0)] (frzE i g (xs.map row).flatten e) := ⟨es, eu, trivial⟩
  have x2 : slots [(s, (gb, .row [.slc sz (xs.map row) .non, .slc sz2 [] .non])), (u, (ub, .row cu))] (frzS i g (xs.map row).flatten σ) := ⟨ss, su, trivial⟩
  rw [updL_slots x1, updL_slots x2] at hk2
  exact hk2
end
/-- aloeswood/aloeswoodkit.OwnParty -/
def ir30v : IFn :=
  ⟨12, [(2, some (2, true))], (.seq (.ops [⟨(some 1), none, (.box 2 (.t 0))⟩,
    ⟨(some 2), none, (.new [.nsl, .nsl])⟩])
  (.seq (.ops [⟨(some 3), none, (.bsl 5 [] [])⟩,
    ⟨(some 4), none, (.flA 0 (.t 1))⟩,
    ⟨(some 5), none, (.ld 1 false (.t 4))⟩,
    ⟨(some 7), none, (.bsl 4 [] [])⟩,
    ⟨(some 8), none, (.flA 1 (.t 1))⟩,
    ⟨(some 9), none, (.ld 1 false (.t 8))⟩,
    ⟨(some 6), none, (.apm 5 48 (.t 3) (.t 5) 6)⟩,
    ⟨none, none, (.chk 1 false (.t 8) 9)⟩,
    ⟨(some 10), none, (.apm 4 32 (.t 7) (.t 9) 10)⟩,
    ⟨(some 11), none, (.bld [.nsl, .nsl] [(0, 1, (.t 6)), (1, 1, (.t 10))])⟩,
    ⟨none, none, (.st 2 (.t 2) (.t 11))⟩])
  .ret))⟩
def hint30v (P : Program) : Hint := { site := [], nils := [], frz := [], wr := [6, 10] }

/-- aloeswood/aloeswoodkit.TurnedParty -/
def ir42 : IFn :=
  ⟨69, [(2, some (2, true))], (.seq (.ops [⟨(some 1), none, (.box 2 (.t 0))⟩,
    ⟨(some 2), none, (.new [.nsl, .nsl])⟩])
  (.seq (.ops [⟨(some 6), none, (.ld 2 true (.t 1))⟩,
    ⟨(some 7), none, (.callF 30 [(.t 6)])⟩,
    ⟨none, none, (.st 2 (.t 1) (.t 7))⟩])
  (.seq (.seq (.ops [⟨(some 3), none, (.mov (.k (.int .i64 0)))⟩])
  (.blk 0 (.loop (.seq (.seq (.ops [⟨(some 8), none, (.mov (.t 3))⟩,
        ⟨(some 9), none, (.flA 0 (.t 1))⟩,
        ⟨(some 10), none, (.ld 1 false (.t 9))⟩,
        ⟨(some 11), none, (.len false (.t 10))⟩,
        ⟨(some 12), none, (.bin .lss (.t 8) (.t 11))⟩])
      (.cnd (.t 12)
        .skip
        (.exit 0)))
      (.seq (.blk 1 (.ops [⟨(some 15), none, (.flA 0 (.t 1))⟩,
          ⟨(some 16), none, (.ld 1 false (.t 15))⟩,
          ⟨(some 17), none, (.mov (.t 3))⟩,
          ⟨(some 18), none, (.flA 0 (.t 1))⟩,
          ⟨(some 19), none, (.ld 1 false (.t 18))⟩,
          ⟨(some 20), none, (.mov (.t 3))⟩,
          ⟨(some 21), none, (.ixA 5 (.t 19) (.t 20))⟩,
          ⟨(some 22), none, (.flA 1 (.t 21))⟩,
          ⟨(some 23), none, (.ld 1 false (.t 22))⟩,
          ⟨(some 24), none, (.bin .sub (.k (.int .i64 9)) (.t 23))⟩,
          ⟨(some 25), none, (.ixA 5 (.t 16) (.t 17))⟩,
          ⟨(some 26), none, (.flA 1 (.t 25))⟩,
          ⟨none, none, (.st 1 (.t 26) (.t 24))⟩]))
      (.ops [⟨(some 13), none, (.mov (.t 3))⟩,
        ⟨(some 14), none, (.bin .add (.t 13) (.k (.int .i64 1)))⟩,
        ⟨(some 3), none, (.mov (.t 14))⟩]))))))
  (.seq (.seq (.ops [⟨(some 4), none, (.mov (.k (.int .i64 0)))⟩])
  (.blk 2 (.loop (.seq (.seq (.ops [⟨(some 27), none, (.mov (.t 4))⟩,
        ⟨(some 28), none, (.flA 1 (.t 1))⟩,
        ⟨(some 29), none, (.ld 1 false (.t 28))⟩,
        ⟨(some 30), none, (.len false (.t 29))⟩,
        ⟨(some 31), none, (.bin .lss (.t 27) (.t 30))⟩])
      (.cnd (.t 31)
        .skip
        (.exit 2)))
      (.seq (.blk 3 (.seq (.ops [⟨(some 34), none, (.flA 1 (.t 1))⟩,
          ⟨(some 35), none, (.ld 1 false (.t 34))⟩,
          ⟨(some 36), none, (.mov (.t 4))⟩,
          ⟨(some 37), none, (.ixA 4 (.t 35) (.t 36))⟩,
          ⟨(some 5), none, (.mov (.t 37))⟩])
        (.seq (.ops [⟨(some 38), none, (.mov (.t 5))⟩,
          ⟨(some 39), none, (.nck (.t 38))⟩,
          ⟨(some 40), none, (.flA 0 (.t 39))⟩,
          ⟨(some 41), none, (.ld 1 false (.t 40))⟩])
        (.blk 4 (.seq (.ops [⟨(some 43), none, (.bin .eql (.t 41) (.k (.int .i64 1)))⟩,
            ⟨(some 42), none, (.mov (.t 43))⟩])
          (.cnd (.t 42)
            (.ops [⟨(some 44), none, (.mov (.t 5))⟩,
              ⟨(some 45), none, (.mov (.t 5))⟩,
              ⟨(some 46), none, (.mov (.t 5))⟩,
              ⟨(some 47), none, (.nck (.t 46))⟩,
              ⟨(some 48), none, (.flA 2 (.t 47))⟩,
              ⟨(some 49), none, (.ld 1 false (.t 48))⟩,
              ⟨(some 50), none, (.mov (.t 5))⟩,
              ⟨(some 51), none, (.nck (.t 50))⟩,
              ⟨(some 52), none, (.flA 1 (.t 51))⟩,
              ⟨(some 53), none, (.ld 1 false (.t 52))⟩,
              ⟨(some 54), none, (.nck (.t 44))⟩,
              ⟨(some 55), none, (.flA 1 (.t 54))⟩,
              ⟨none, none, (.st 1 (.t 55) (.t 49))⟩,
              ⟨(some 56), none, (.nck (.t 45))⟩,
              ⟨(some 57), none, (.flA 2 (.t 56))⟩,
              ⟨none, none, (.st 1 (.t 57) (.t 53))⟩])
            (.seq (.ops [⟨(some 59), none, (.bin .eql (.t 41) (.k (.int .i64 4)))⟩,
              ⟨(some 58), none, (.mov (.t 59))⟩])
            (.cnd (.t 58)
              (.ops [⟨(some 60), none, (.mov (.t 5))⟩,
                ⟨(some 61), none, (.nck (.t 60))⟩,
                ⟨(some 62), none, (.flA 0 (.t 61))⟩,
                ⟨none, none, (.st 1 (.t 62) (.k (.int .i64 5)))⟩])
              (.seq (.ops [⟨(some 64), none, (.bin .eql (.t 41) (.k (.int .i64 5)))⟩,
                ⟨(some 63), none, (.mov (.t 64))⟩])
              (.cnd (.t 63)
                (.ops [⟨(some 65), none, (.mov (.t 5))⟩,
                  ⟨(some 66), none, (.nck (.t 65))⟩,
                  ⟨(some 67), none, (.flA 0 (.t 66))⟩,
                  ⟨none, none, (.st 1 (.t 67) (.k (.int .i64 4)))⟩])
                .skip))))))))))
      (.ops [⟨(some 32), none, (.mov (.t 4))⟩,
        ⟨(some 33), none, (.bin .add (.t 32) (.k (.int .i64 1)))⟩,
        ⟨(some 4), none, (.mov (.t 33))⟩]))))))
  (.seq (.seq (.frz (.t 10))
  (.seq (.frz (.t 29))
  (.ops [⟨(some 68), none, (.ld 2 true (.t 1))⟩,
    ⟨none, none, (.st 2 (.t 2) (.t 68))⟩])))
  .ret)))))⟩
def hint42 (P : Program) : Hint := { site := [], nils := [], frz := [(68, 10), (68, 29)], wr := [] }

theorem ownPartyW_c (g0 : Guest) (gs : List Guest) (r0 : Rule) (rs : List Rule) (hg : gs.length ≤ 1000000) (hr : rs.length ≤ 1000000) : RawC Try.prog 30 [pA (g0 :: gs) (r0 :: rs)] (sg []) (SR (fun (x : Nat × Nat) v => v = .agg [.msl 6 x.1 (g0 :: gs).length 5, .msl 10 x.2 (r0 :: rs).length 4]) (fun x => [(6, (x.1, .row ((g0 :: gs).map Guest.row).flatten)), (10, (x.2, .row ((r0 :: rs).map Rule.row).flatten))])) := by
  refine RawC.walk (H := hint30v Try.prog) ir30v Try.func30 rfl rfl rfl ?_
  unfold ir30v
  repeat' (first
    | with_reducible (first | refine Rd.p ?_ | refine zO ?_ | refine zE0 ?_)
    | (first | (refine w_apmR (row := Guest.row) rfl rfl (by simp; omega) ?_; intro _) | (refine w_apmR (row := Rule.row) rfl rfl (by simp; omega) ?_; intro _))
    | with_reducible (first | refine zI fun y hy => ?_ | refine zL ?_ | refine zS ?_ | refine zA fun _ => ?_ | refine zV ?_ | refine zC ?_ | refine zG ?_ | refine zU ?_ | refine zG0 ?_ | refine zU0 ?_ | refine zF ?_)
    | with_reducible (first | refine zX ?_ | refine zD fun _ => ?_ | refine zD0 ?_ | refine zN ?_ | refine zF0 ?_ | refine zX0 ?_ | refine z1 ?_ | refine z2 ?_ | refine z3 ?_ | refine z4 ?_ | refine z5 ?_ | refine z6 ?_ | refine z7 ?_ | refine z8 ?_ | refine y1 ?_ | refine y2 ?_ | refine y3 ?_ | refine y4 ?_ | refine y5 ?_ | refine y6 ?_ | refine y7 ?_ | refine y8 ?_ | refine Rt.p (fun _ => ?_) fun _ => ?_)
    | ((with_reducible apply w_ixM); (focus exact rfl); (focus exact rfl); case' hk => intro y hy) | ((with_reducible (first | apply w_val | apply q_ends)); (focus exact rfl)))
  exact ⟨(_, _), rfl, rfl, rfl, trivial⟩
theorem ownPartyW0_c (g0 : Guest) (gs : List Guest) (hg : gs.length ≤ 1000000) : RawC Try.prog 30 [pA (g0 :: gs) []] (sg []) (SR (fun (x : Nat) v => v = .agg [.msl 6 x (g0 :: gs).length 5, .slc 4 [] .full]) (fun x => [(6, (x, .row ((g0 :: gs).map Guest.row).flatten))])) := by
  refine RawC.walk (H := hint30v Try.prog) ir30v Try.func30 rfl rfl rfl ?_
  unfold ir30v
  repeat' (first
    | with_reducible (first | refine Rd.p ?_ | refine zO ?_ | refine zE0 ?_)
    | (refine w_apmR (row := Guest.row) rfl rfl (by simp; omega) ?_; intro _)
    | with_reducible (first | refine zI fun y hy => ?_ | refine zL ?_ | refine zS ?_ | refine zA fun _ => ?_ | refine zV ?_ | refine zC ?_ | refine zG ?_ | refine zU ?_ | refine zG0 ?_ | refine zU0 ?_ | refine zF ?_)
    | with_reducible (first | refine zX ?_ | refine zD fun _ => ?_ | refine zD0 ?_ | refine zN ?_ | refine zF0 ?_ | refine zX0 ?_ | refine z1 ?_ | refine z2 ?_ | refine z3 ?_ | refine z4 ?_ | refine z5 ?_ | refine z6 ?_ | refine z7 ?_ | refine z8 ?_ | refine y1 ?_ | refine y2 ?_ | refine y3 ?_ | refine y4 ?_ | refine y5 ?_ | refine y6 ?_ | refine y7 ?_ | refine y8 ?_ | refine Rt.p (fun _ => ?_) fun _ => ?_)
    | ((with_reducible apply w_ixM); (focus exact rfl); (focus exact rfl); case' hk => intro y hy) | ((with_reducible (first | apply w_val | apply q_ends)); (focus exact rfl)))
  exact ⟨_, rfl, rfl, trivial⟩
def turnG (g : Guest) : Guest := ⟨g.name, 9 - g.rank, g.honour, g.never, g.maybe⟩
def turnR (r : Rule) : Rule := if r.kind = 1 then ⟨r.kind, r.b, r.a, r.weight⟩ else if r.kind = 4 then ⟨5, r.a, r.b, r.weight⟩ else if r.kind = 5 then ⟨4, r.a, r.b, r.weight⟩ else r
theorem turned_c (g0 : Guest) (gs : List Guest) (r0 : Rule) (rs : List Rule) (hg : gs.length ≤ 1000) (hr : rs.length ≤ 1000) (hrk : ∀ g ∈ g0 :: gs, 0 ≤ g.rank ∧ g.rank ≤ 9) :
    Fn0 Try.prog 42 [pA (g0 :: gs) (r0 :: rs)] (fun v => v = pA ((g0 :: gs).map turnG) ((r0 :: rs).map turnR)) := by
  refine RawC.walk (H := hint42 Try.prog) ir42 Try.func42 rfl rfl rfl ?_
  unfold ir42
  repeat' (first
    | with_reducible (first | refine Rd.p ?_ | refine zE ?_ | refine zE0 ?_)
    | with_reducible (first | refine zI fun y hy => ?_ | refine zL ?_ | refine zS ?_ | refine zA fun _ => ?_ | refine zV ?_ | refine zC ?_ | refine zG ?_ | refine zU ?_ | refine zG0 ?_ | refine zU0 ?_ | refine zF ?_)
    | ((with_reducible refine acall_id ?_); (refine ACall.liftNS (ownPartyW_c g0 gs r0 rs (by omega) (by omega)) [] [(6, 7), (10, 3007)] rfl rfl rfl rfl trivial (fun _ => rfl) ?_; rintro ⟨g6, g10⟩ _ rfl))
    | with_reducible (first | refine zX ?_ | refine zD fun _ => ?_ | refine zD0 ?_ | refine zN ?_ | refine zF0 ?_ | refine zX0 ?_ | refine z1 ?_ | refine z2 ?_ | refine z3 ?_ | refine z4 ?_ | refine z5 ?_ | refine z6 ?_ | refine z7 ?_ | refine z8 ?_ | refine y1 ?_ | refine y2 ?_ | refine y3 ?_ | refine y4 ?_ | refine y5 ?_ | refine y6 ?_ | refine y7 ?_ | refine y8 ?_ | refine Rt.p (fun _ => ?_) fun _ => ?_)
    | ((with_reducible apply w_ixM); (focus exact rfl); (focus exact rfl); case' hk => intro y hy) | ((with_reducible (first | apply w_val | apply q_ends)); (focus exact rfl)))
  rename_i g1 g2
  refine w_loopK [1, 2] [1, 2] (fun x : List Guest × List Guest => g0 :: gs = x.1 ++ x.2) (fun x => x.2.length) (fun x => [(3, .int .i64 x.1.length)])
    (fun x => [(7, (g6, .row ((x.1.map turnG ++ x.2).map Guest.row).flatten)), (3007, (g10, .row ((r0 :: rs).map Rule.row).flatten))]) ([], g0 :: gs) rfl ⟨rfl, trivial⟩
    (by exact ⟨congrArg (fun c => ((g6, Res.row c) : Nat × Res)) (guestR.rens _ (g0 :: gs)), congrArg (fun c => ((g10, Res.row c) : Nat × Res)) (ruleR.rens _ (r0 :: rs)), trivial⟩) ?_
  rintro ⟨pre, post⟩ hl e1 σ1
  dsimp only at hl ⊢
  have hlen := congrArg List.length hl
  cases post with
  | cons y post =>
    simp only [List.length_append, List.length_cons] at hlen
    have hy := hrk y (by rw [hl]; simp)
    have hnx : pre.map turnG ++ turnG y :: post = (pre ++ [y]).map turnG ++ post := by simp
    have hgl : (g0 :: gs).length = gs.length + 1 := rfl
    repeat' (first
      | with_reducible (first | refine Rd.p ?_ | refine zE ?_ | refine zE0 ?_)
      | (with_reducible refine zLd guestR 7 1 ?_)
      | with_reducible (first | refine zI fun y hy => ?_ | refine zL ?_ | refine zS ?_ | refine zA fun _ => ?_ | refine zV ?_ | refine zC ?_ | refine zG ?_ | refine zU ?_ | refine zG0 ?_ | refine zU0 ?_ | refine zF ?_)
      | with_reducible (first | refine zX ?_ | refine zD fun _ => ?_ | refine zD0 ?_ | refine zN ?_ | refine zF0 ?_ | refine zX0 ?_ | refine z1 ?_ | refine z2 ?_ | refine z3 ?_ | refine z4 ?_ | refine z5 ?_ | refine z6 ?_ | refine z7 ?_ | refine z8 ?_ | refine y1 ?_ | refine y2 ?_ | refine y3 ?_ | refine y4 ?_ | refine y5 ?_ | refine y6 ?_ | refine y7 ?_ | refine y8 ?_ | refine Rt.p (fun _ => ?_) fun _ => ?_)
      | ((with_reducible apply w_ixM); (focus exact rfl); (focus exact rfl); case' hk => intro y hy) | ((with_reducible (first | apply w_val | apply q_ends)); (focus exact rfl)))
    refine w_stM guestR (i := 7) (g := g6) (pre := pre.map turnG) (y := y) (post := post) (y' := turnG y) (j := 1) (c := .int .i64 (9 - y.rank)) rfl rfl (by simp) (by omega) rfl rfl ?_
    repeat' (first
      | with_reducible (first | refine Rd.p ?_ | refine zE ?_ | refine zE0 ?_)
      | with_reducible (first | refine zI fun y hy => ?_ | refine zL ?_ | refine zS ?_ | refine zA fun _ => ?_ | refine zV ?_ | refine zC ?_ | refine zG ?_ | refine zU ?_ | refine zG0 ?_ | refine zU0 ?_ | refine zF ?_)
      | with_reducible (first | refine zX ?_ | refine zD fun _ => ?_ | refine zD0 ?_ | refine zN ?_ | refine zF0 ?_ | refine zX0 ?_ | refine z1 ?_ | refine z2 ?_ | refine z3 ?_ | refine z4 ?_ | refine z5 ?_ | refine z6 ?_ | refine z7 ?_ | refine z8 ?_ | refine y1 ?_ | refine y2 ?_ | refine y3 ?_ | refine y4 ?_ | refine y5 ?_ | refine y6 ?_ | refine y7 ?_ | refine y8 ?_ | refine Rt.p (fun _ => ?_) fun _ => ?_)
      | ((with_reducible apply w_ixM); (focus exact rfl); (focus exact rfl); case' hk => intro y hy) | ((with_reducible (first | apply w_val | apply q_ends)); (focus exact rfl)))
    refine q_loop (pre ++ [y], post) ?_ ?_ (by repeat' (first | exact slots_nil | apply slots_cons | rfl | (rw [map_snoc]; rfl) | (rw [len_snoc]; rfl) | (rw [hS]; rfl) | (rw [hS, map_snoc]; rfl) | (refine int_eq ?_; (try dsimp only); omega) | (refine congrArg AV.bool ?_; simp_all; done))) (by exact ⟨congrArg (fun l : List Guest => ((g6, Res.row (l.map Guest.row).flatten) : Nat × Res)) hnx, rfl, trivial⟩) (by repeat' (first | exact kept_nil | apply kept_cons | rfl)) (by repeat' (first | exact kept_nil | apply kept_cons | rfl))
    · rw [hl]; simp
    · simp
  | nil =>
    simp only [List.append_nil, List.length_append, List.length_nil] at hlen hl
    have hgl : (g0 :: gs).length = gs.length + 1 := rfl
    have hrl : (r0 :: rs).length = rs.length + 1 := rfl
    repeat' (first
      | with_reducible (first | refine Rd.p ?_ | refine zE ?_ | refine zE0 ?_)
      | with_reducible (first | refine zI fun y hy => ?_ | refine zL ?_ | refine zS ?_ | refine zA fun _ => ?_ | refine zV ?_ | refine zC ?_ | refine zG ?_ | refine zU ?_ | refine zG0 ?_ | refine zU0 ?_ | refine zF ?_)
      | with_reducible (first | refine zX ?_ | refine zD fun _ => ?_ | refine zD0 ?_ | refine zN ?_ | refine zF0 ?_ | refine zX0 ?_ | refine z1 ?_ | refine z2 ?_ | refine z3 ?_ | refine z4 ?_ | refine z5 ?_ | refine z6 ?_ | refine z7 ?_ | refine z8 ?_ | refine y1 ?_ | refine y2 ?_ | refine y3 ?_ | refine y4 ?_ | refine y5 ?_ | refine y6 ?_ | refine y7 ?_ | refine y8 ?_ | refine Rt.p (fun _ => ?_) fun _ => ?_)
      | ((with_reducible apply w_ixM); (focus exact rfl); (focus exact rfl); case' hk => intro y hy) | ((with_reducible (first | apply w_val | apply q_ends)); (focus exact rfl)))
    refine w_loopK [1, 2, 10] [1, 2, 7] (fun x : List Rule × List Rule => r0 :: rs = x.1 ++ x.2) (fun x => x.2.length) (fun x => [(4, .int .i64 x.1.length)])
      (fun x => [(3007, (g10, .row ((x.1.map turnR ++ x.2).map Rule.row).flatten))]) ([], r0 :: rs) rfl ⟨rfl, trivial⟩ ⟨rfl, trivial⟩ ?_
    rintro ⟨pre2, post2⟩ hl2 e2 σ2
    dsimp only at hl2 ⊢
    have hlen2 := congrArg List.length hl2
    cases post2 with
    | cons y post2 =>
      simp only [List.length_append, List.length_cons] at hlen2
      have hnx : ∀ y', y' = turnR y → pre2.map turnR ++ y' :: post2 = (pre2 ++ [y]).map turnR ++ post2 := fun y' h => by subst h; simp
      repeat' (first
        | with_reducible (first | refine Rd.p ?_ | refine zE ?_ | refine zE0 ?_)
        | (first | with_reducible refine zLd ruleR 3007 0 ?_ | with_reducible refine zLd ruleR 3007 1 ?_ | with_reducible refine zLd ruleR 3007 2 ?_)
        | with_reducible (first | refine zI fun y hy => ?_ | refine zL ?_ | refine zS ?_ | refine zA fun _ => ?_ | refine zV ?_ | refine zC ?_ | refine zG ?_ | refine zU ?_ | refine zG0 ?_ | refine zU0 ?_ | refine zF ?_)
        | with_reducible (first | refine zX ?_ | refine zD fun _ => ?_ | refine zD0 ?_ | refine zN ?_ | refine zF0 ?_ | refine zX0 ?_ | refine z1 ?_ | refine z2 ?_ | refine z3 ?_ | refine z4 ?_ | refine z5 ?_ | refine z6 ?_ | refine z7 ?_ | refine z8 ?_ | refine y1 ?_ | refine y2 ?_ | refine y3 ?_ | refine y4 ?_ | refine y5 ?_ | refine y6 ?_ | refine y7 ?_ | refine y8 ?_ | refine Rt.p (fun _ => ?_) fun _ => ?_)
        | ((with_reducible apply w_ixM); (focus exact rfl); (focus exact rfl); case' hk => intro y hy) | ((with_reducible (first | apply w_val | apply q_ends)); (focus exact rfl)))
      · rename_i h1
        refine w_stM ruleR (i := 3007) (g := g10) (pre := pre2.map turnR) (y := y) (post := post2) (y' := ⟨y.kind, y.b, y.b, y.weight⟩) (j := 1) (c := .int .i64 y.b) rfl rfl (by simp) (by omega) rfl rfl ?_
        repeat' (first
          | with_reducible (first | refine Rd.p ?_ | refine zE ?_ | refine zE0 ?_)
          | with_reducible (first | refine zI fun y hy => ?_ | refine zL ?_ | refine zS ?_ | refine zA fun _ => ?_ | refine zV ?_ | refine zC ?_ | refine zG ?_ | refine zU ?_ | refine zG0 ?_ | refine zU0 ?_ | refine zF ?_)
          | with_reducible (first | refine zX ?_ | refine zD fun _ => ?_ | refine zD0 ?_ | refine zN ?_ | refine zF0 ?_ | refine zX0 ?_ | refine z1 ?_ | refine z2 ?_ | refine z3 ?_ | refine z4 ?_ | refine z5 ?_ | refine z6 ?_ | refine z7 ?_ | refine z8 ?_ | refine y1 ?_ | refine y2 ?_ | refine y3 ?_ | refine y4 ?_ | refine y5 ?_ | refine y6 ?_ | refine y7 ?_ | refine y8 ?_ | refine Rt.p (fun _ => ?_) fun _ => ?_)
          | ((with_reducible apply w_ixM); (focus exact rfl); (focus exact rfl); case' hk => intro y hy) | ((with_reducible (first | apply w_val | apply q_ends)); (focus exact rfl)))
        refine w_stM ruleR (i := 3007) (g := g10) (pre := pre2.map turnR) (y := ⟨y.kind, y.b, y.b, y.weight⟩) (post := post2) (y' := ⟨y.kind, y.b, y.a, y.weight⟩) (j := 2) (c := .int .i64 y.a) rfl rfl (by simp) (by omega) rfl rfl ?_
        repeat' (first
          | with_reducible (first | refine Rd.p ?_ | refine zE ?_ | refine zE0 ?_)
          | with_reducible (first | refine zI fun y hy => ?_ | refine zL ?_ | refine zS ?_ | refine zA fun _ => ?_ | refine zV ?_ | refine zC ?_ | refine zG ?_ | refine zU ?_ | refine zG0 ?_ | refine zU0 ?_ | refine zF ?_)
          | with_reducible (first | refine zX ?_ | refine zD fun _ => ?_ | refine zD0 ?_ | refine zN ?_ | refine zF0 ?_ | refine zX0 ?_ | refine z1 ?_ | refine z2 ?_ | refine z3 ?_ | refine z4 ?_ | refine z5 ?_ | refine z6 ?_ | refine z7 ?_ | refine z8 ?_ | refine y1 ?_ | refine y2 ?_ | refine y3 ?_ | refine y4 ?_ | refine y5 ?_ | refine y6 ?_ | refine y7 ?_ | refine y8 ?_ | refine Rt.p (fun _ => ?_) fun _ => ?_)
          | ((with_reducible apply w_ixM); (focus exact rfl); (focus exact rfl); case' hk => intro y hy) | ((with_reducible (first | apply w_val | apply q_ends)); (focus exact rfl)))
        refine q_loop (pre2 ++ [y], post2) ?_ ?_ (by repeat' (first | exact slots_nil | apply slots_cons | rfl | (rw [map_snoc]; rfl) | (rw [len_snoc]; rfl) | (rw [hS]; rfl) | (rw [hS, map_snoc]; rfl) | (refine int_eq ?_; (try dsimp only); omega) | (refine congrArg AV.bool ?_; simp_all; done))) (by exact ⟨congrArg (fun l : List Rule => ((g10, Res.row (l.map Rule.row).flatten) : Nat × Res)) (hnx ⟨y.kind, y.b, y.a, y.weight⟩ (by rw [turnR, if_pos h1])), trivial⟩) (by repeat' (first | exact kept_nil | apply kept_cons | rfl)) (by repeat' (first | exact kept_nil | apply kept_cons | rfl))
        · rw [hl2]; simp
        · simp
      · rename_i h1 h2
        refine w_stM ruleR (i := 3007) (g := g10) (pre := pre2.map turnR) (y := y) (post := post2) (y' := ⟨5, y.a, y.b, y.weight⟩) (j := 0) (c := .int .i64 5) rfl rfl (by simp) (by omega) rfl rfl ?_
        repeat' (first
          | with_reducible (first | refine Rd.p ?_ | refine zE ?_ | refine zE0 ?_)
          | with_reducible (first | refine zI fun y hy => ?_ | refine zL ?_ | refine zS ?_ | refine zA fun _ => ?_ | refine zV ?_ | refine zC ?_ | refine zG ?_ | refine zU ?_ | refine zG0 ?_ | refine zU0 ?_ | refine zF ?_)
          | with_reducible (first | refine zX ?_ | refine zD fun _ => ?_ | refine zD0 ?_ | refine zN ?_ | refine zF0 ?_ | refine zX0 ?_ | refine z1 ?_ | refine z2 ?_ | refine z3 ?_ | refine z4 ?_ | refine z5 ?_ | refine z6 ?_ | refine z7 ?_ | refine z8 ?_ | refine y1 ?_ | refine y2 ?_ | refine y3 ?_ | refine y4 ?_ | refine y5 ?_ | refine y6 ?_ | refine y7 ?_ | refine y8 ?_ | refine Rt.p (fun _ => ?_) fun _ => ?_)
          | ((with_reducible apply w_ixM); (focus exact rfl); (focus exact rfl); case' hk => intro y hy) | ((with_reducible (first | apply w_val | apply q_ends)); (focus exact rfl)))
        refine q_loop (pre2 ++ [y], post2) ?_ ?_ (by repeat' (first | exact slots_nil | apply slots_cons | rfl | (rw [map_snoc]; rfl) | (rw [len_snoc]; rfl) | (rw [hS]; rfl) | (rw [hS, map_snoc]; rfl) | (refine int_eq ?_; (try dsimp only); omega) | (refine congrArg AV.bool ?_; simp_all; done))) (by exact ⟨congrArg (fun l : List Rule => ((g10, Res.row (l.map Rule.row).flatten) : Nat × Res)) (hnx ⟨5, y.a, y.b, y.weight⟩ (by rw [turnR, if_neg h1, if_pos h2])), trivial⟩) (by repeat' (first | exact kept_nil | apply kept_cons | rfl)) (by repeat' (first | exact kept_nil | apply kept_cons | rfl))
        · rw [hl2]; simp
        · simp
      · rename_i h1 h2 h3
        refine w_stM ruleR (i := 3007) (g := g10) (pre := pre2.map turnR) (y := y) (post := post2) (y' := ⟨4, y.a, y.b, y.weight⟩) (j := 0) (c := .int .i64 4) rfl rfl (by simp) (by omega) rfl rfl ?_
        repeat' (first
          | with_reducible (first | refine Rd.p ?_ | refine zE ?_ | refine zE0 ?_)
          | with_reducible (first | refine zI fun y hy => ?_ | refine zL ?_ | refine zS ?_ | refine zA fun _ => ?_ | refine zV ?_ | refine zC ?_ | refine zG ?_ | refine zU ?_ | refine zG0 ?_ | refine zU0 ?_ | refine zF ?_)
          | with_reducible (first | refine zX ?_ | refine zD fun _ => ?_ | refine zD0 ?_ | refine zN ?_ | refine zF0 ?_ | refine zX0 ?_ | refine z1 ?_ | refine z2 ?_ | refine z3 ?_ | refine z4 ?_ | refine z5 ?_ | refine z6 ?_ | refine z7 ?_ | refine z8 ?_ | refine y1 ?_ | refine y2 ?_ | refine y3 ?_ | refine y4 ?_ | refine y5 ?_ | refine y6 ?_ | refine y7 ?_ | refine y8 ?_ | refine Rt.p (fun _ => ?_) fun _ => ?_)
          | ((with_reducible apply w_ixM); (focus exact rfl); (focus exact rfl); case' hk => intro y hy) | ((with_reducible (first | apply w_val | apply q_ends)); (focus exact rfl)))
        refine q_loop (pre2 ++ [y], post2) ?_ ?_ (by repeat' (first | exact slots_nil | apply slots_cons | rfl | (rw [map_snoc]; rfl) | (rw [len_snoc]; rfl) | (rw [hS]; rfl) | (rw [hS, map_snoc]; rfl) | (refine int_eq ?_; (try dsimp only); omega) | (refine congrArg AV.bool ?_; simp_all; done))) (by exact ⟨congrArg (fun l : List Rule => ((g10, Res.row (l.map Rule.row).flatten) : Nat × Res)) (hnx ⟨4, y.a, y.b, y.weight⟩ (by rw [turnR, if_neg h1, if_neg h2, if_pos h3])), trivial⟩) (by repeat' (first | exact kept_nil | apply kept_cons | rfl)) (by repeat' (first | exact kept_nil | apply kept_cons | rfl))
        · rw [hl2]; simp
        · simp
      · rename_i h1 h2 h3
        refine q_loop (pre2 ++ [y], post2) ?_ ?_ (by repeat' (first | exact slots_nil | apply slots_cons | rfl | (rw [map_snoc]; rfl) | (rw [len_snoc]; rfl) | (rw [hS]; rfl) | (rw [hS, map_snoc]; rfl) | (refine int_eq ?_; (try dsimp only); omega) | (refine congrArg AV.bool ?_; simp_all; done))) (by exact ⟨congrArg (fun l : List Rule => ((g10, Res.row (l.map Rule.row).flatten) : Nat × Res)) (hnx y (by rw [turnR, if_neg h1, if_neg h2, if_neg h3])), trivial⟩) (by repeat' (first | exact kept_nil | apply kept_cons | rfl)) (by repeat' (first | exact kept_nil | apply kept_cons | rfl))
        · rw [hl2]; simp
        · simp
    | nil =>
      simp only [List.append_nil, List.length_append, List.length_nil] at hlen2 hl2
      repeat' (first
        | with_reducible (first | refine Rd.p ?_ | refine zE ?_ | refine zE0 ?_)
        | with_reducible (first | refine zI fun y hy => ?_ | refine zL ?_ | refine zS ?_ | refine zA fun _ => ?_ | refine zV ?_ | refine zC ?_ | refine zG ?_ | refine zU ?_ | refine zG0 ?_ | refine zU0 ?_ | refine zF ?_)
        | with_reducible (first | refine zX ?_ | refine zD fun _ => ?_ | refine zD0 ?_ | refine zN ?_ | refine zF0 ?_ | refine zX0 ?_ | refine z1 ?_ | refine z2 ?_ | refine z3 ?_ | refine z4 ?_ | refine z5 ?_ | refine z6 ?_ | refine z7 ?_ | refine z8 ?_ | refine y1 ?_ | refine y2 ?_ | refine y3 ?_ | refine y4 ?_ | refine y5 ?_ | refine y6 ?_ | refine y7 ?_ | refine y8 ?_ | refine Rt.p (fun _ => ?_) fun _ => ?_)
        | ((with_reducible apply w_ixM); (focus exact rfl); (focus exact rfl); case' hk => intro y hy) | ((with_reducible (first | apply w_val | apply q_ends)); (focus exact rfl)))
      refine w_frzP (i := 7) (j := 3007) (s := 1) (u := 2) (g := g6) (h := g10) (gb := g1) (ub := g2) (xs := pre.map turnG ++ []) (ys := pre2.map turnR ++ []) (cu := [.nsl, .nsl]) guestR ruleR (by decide) (by decide) (by decide) (by decide) (by decide) (by simp; omega) (by simp; omega) rfl rfl rfl rfl rfl rfl rfl rfl (fun _ _ _ => rfl) ?_
      intro e3 σ3
      repeat' (first
        | with_reducible (first | refine Rd.p ?_ | refine zE ?_ | refine zE0 ?_)
        | with_reducible (first | refine zI fun y hy => ?_ | refine zL ?_ | refine zS ?_ | refine zA fun _ => ?_ | refine zV ?_ | refine zC ?_ | refine zG ?_ | refine zU ?_ | refine zG0 ?_ | refine zU0 ?_ | refine zF ?_)
        | with_reducible (first | refine zX ?_ | refine zD fun _ => ?_ | refine zD0 ?_ | refine zN ?_ | refine zF0 ?_ | refine zX0 ?_ | refine z1 ?_ | refine z2 ?_ | refine z3 ?_ | refine z4 ?_ | refine z5 ?_ | refine z6 ?_ | refine z7 ?_ | refine z8 ?_ | refine y1 ?_ | refine y2 ?_ | refine y3 ?_ | refine y4 ?_ | refine y5 ?_ | refine y6 ?_ | refine y7 ?_ | refine y8 ?_ | refine Rt.p (fun _ => ?_) fun _ => ?_)
        | ((with_reducible apply w_ixM); (focus exact rfl); (focus exact rfl); case' hk => intro y hy) | ((with_reducible (first | apply w_val | apply q_ends)); (focus exact rfl)))
      rw [hl, hl2]
      simp only [List.append_nil]
      rfl
theorem turned0_c (g0 : Guest) (gs : List Guest) (hg : gs.length ≤ 1000) (hrk : ∀ g ∈ g0 :: gs, 0 ≤ g.rank ∧ g.rank ≤ 9) :
    Fn0 Try.prog 42 [pA (g0 :: gs) []] (fun v => v = pA ((g0 :: gs).map turnG) []) := by
  refine RawC.walk (H := hint42 Try.prog) ir42 Try.func42 rfl rfl rfl ?_
  unfold ir42
  repeat' (first
    | with_reducible (first | refine Rd.p ?_ | refine zE ?_ | refine zE0 ?_)
    | with_reducible (first | refine zI fun y hy => ?_ | refine zL ?_ | refine zS ?_ | refine zA fun _ => ?_ | refine zV ?_ | refine zC ?_ | refine zG ?_ | refine zU ?_ | refine zG0 ?_ | refine zU0 ?_ | refine zF ?_)
    | ((with_reducible refine acall_id ?_); (refine ACall.liftNS (ownPartyW0_c g0 gs (by omega)) [] [(6, 7)] rfl rfl rfl rfl trivial (fun _ => rfl) ?_; rintro g6 _ rfl))
    | with_reducible (first | refine zX ?_ | refine zD fun _ => ?_ | refine zD0 ?_ | refine zN ?_ | refine zF0 ?_ | refine zX0 ?_ | refine z1 ?_ | refine z2 ?_ | refine z3 ?_ | refine z4 ?_ | refine z5 ?_ | refine z6 ?_ | refine z7 ?_ | refine z8 ?_ | refine y1 ?_ | refine y2 ?_ | refine y3 ?_ | refine y4 ?_ | refine y5 ?_ | refine y6 ?_ | refine y7 ?_ | refine y8 ?_ | refine Rt.p (fun _ => ?_) fun _ => ?_)
    | ((with_reducible apply w_ixM); (focus exact rfl); (focus exact rfl); case' hk => intro y hy) | ((with_reducible (first | apply w_val | apply q_ends)); (focus exact rfl)))
  rename_i g1 g2
  refine w_loopK [1, 2] [1, 2] (fun x : List Guest × List Guest => g0 :: gs = x.1 ++ x.2) (fun x => x.2.length) (fun x => [(3, .int .i64 x.1.length)])
    (fun x => [(7, (g6, .row ((x.1.map turnG ++ x.2).map Guest.row).flatten))]) ([], g0 :: gs) rfl ⟨rfl, trivial⟩
    (by exact ⟨congrArg (fun c => ((g6, Res.row c) : Nat × Res)) (guestR.rens _ (g0 :: gs)), trivial⟩) ?_
  rintro ⟨pre, post⟩ hl e1 σ1
  dsimp only at hl ⊢
  have hlen := congrArg List.length hl
  cases post with
  | cons y post =>
    simp only [List.length_append, List.length_cons] at hlen
    have hy := hrk y (by rw [hl]; simp)
    have hnx : pre.map turnG ++ turnG y :: post = (pre ++ [y]).map turnG ++ post := by simp
    have hgl : (g0 :: gs).length = gs.length + 1 := rfl
    repeat' (first
      | with_reducible (first | refine Rd.p ?_ | refine zE ?_ | refine zE0 ?_)
      | (with_reducible refine zLd guestR 7 1 ?_)
      | with_reducible (first | refine zI fun y hy => ?_ | refine zL ?_ | refine zS ?_ | refine zA fun _ => ?_ | refine zV ?_ | refine zC ?_ | refine zG ?_ | refine zU ?_ | refine zG0 ?_ | refine zU0 ?_ | refine zF ?_)
      | with_reducible (first | refine zX ?_ | refine zD fun _ => ?_ | refine zD0 ?_ | refine zN ?_ | refine zF0 ?_ | refine zX0 ?_ | refine z1 ?_ | refine z2 ?_ | refine z3 ?_ | refine z4 ?_ | refine z5 ?_ | refine z6 ?_ | refine z7 ?_ | refine z8 ?_ | refine y1 ?_ | refine y2 ?_ | refine y3 ?_ | refine y4 ?_ | refine y5 ?_ | refine y6 ?_ | refine y7 ?_ | refine y8 ?_ | refine Rt.p (fun _ => ?_) fun _ => ?_)
      | ((with_reducible apply w_ixM); (focus exact rfl); (focus exact rfl); case' hk => intro y hy) | ((with_reducible (first | apply w_val | apply q_ends)); (focus exact rfl)))
    refine w_stM guestR (i := 7) (g := g6) (pre := pre.map turnG) (y := y) (post := post) (y' := turnG y) (j := 1) (c := .int .i64 (9 - y.rank)) rfl rfl (by simp) (by omega) rfl rfl ?_
    repeat' (first
      | with_reducible (first | refine Rd.p ?_ | refine zE ?_ | refine zE0 ?_)
      | with_reducible (first | refine zI fun y hy => ?_ | refine zL ?_ | refine zS ?_ | refine zA fun _ => ?_ | refine zV ?_ | refine zC ?_ | refine zG ?_ | refine zU ?_ | refine zG0 ?_ | refine zU0 ?_ | refine zF ?_)
      | with_reducible (first | refine zX ?_ | refine zD fun _ => ?_ | refine zD0 ?_ | refine zN ?_ | refine zF0 ?_ | refine zX0 ?_ | refine z1 ?_ | refine z2 ?_ | refine z3 ?_ | refine z4 ?_ | refine z5 ?_ | refine z6 ?_ | refine z7 ?_ | refine z8 ?_ | refine y1 ?_ | refine y2 ?_ | refine y3 ?_ | refine y4 ?_ | refine y5 ?_ | refine y6 ?_ | refine y7 ?_ | refine y8 ?_ | refine Rt.p (fun _ => ?_) fun _ => ?_)
      | ((with_reducible apply w_ixM); (focus exact rfl); (focus exact rfl); case' hk => intro y hy) | ((with_reducible (first | apply w_val | apply q_ends)); (focus exact rfl)))
    refine q_loop (pre ++ [y], post) ?_ ?_ (by repeat' (first | exact slots_nil | apply slots_cons | rfl | (rw [map_snoc]; rfl) | (rw [len_snoc]; rfl) | (rw [hS]; rfl) | (rw [hS, map_snoc]; rfl) | (refine int_eq ?_; (try dsimp only); omega) | (refine congrArg AV.bool ?_; simp_all; done))) (by exact ⟨congrArg (fun l : List Guest => ((g6, Res.row (l.map Guest.row).flatten) : Nat × Res)) hnx, trivial⟩) (by repeat' (first | exact kept_nil | apply kept_cons | rfl)) (by repeat' (first | exact kept_nil | apply kept_cons | rfl))
    · rw [hl]; simp
    · simp
  | nil =>
    simp only [List.append_nil, List.length_append, List.length_nil] at hlen hl
    have hgl : (g0 :: gs).length = gs.length + 1 := rfl
    have hz : ([] : List Rule).length = 0 := rfl
    repeat' (first
      | with_reducible (first | refine Rd.p ?_ | refine zE ?_ | refine zE0 ?_)
      | with_reducible (first | refine zI fun y hy => ?_ | refine zL ?_ | refine zS ?_ | refine zA fun _ => ?_ | refine zV ?_ | refine zC ?_ | refine zG ?_ | refine zU ?_ | refine zG0 ?_ | refine zU0 ?_ | refine zF ?_)
      | with_reducible (first | refine zX ?_ | refine zD fun _ => ?_ | refine zD0 ?_ | refine zN ?_ | refine zF0 ?_ | refine zX0 ?_ | refine z1 ?_ | refine z2 ?_ | refine z3 ?_ | refine z4 ?_ | refine z5 ?_ | refine z6 ?_ | refine z7 ?_ | refine z8 ?_ | refine y1 ?_ | refine y2 ?_ | refine y3 ?_ | refine y4 ?_ | refine y5 ?_ | refine y6 ?_ | refine y7 ?_ | refine y8 ?_ | refine Rt.p (fun _ => ?_) fun _ => ?_)
      | ((with_reducible apply w_ixM); (focus exact rfl); (focus exact rfl); case' hk => intro y hy) | ((with_reducible (first | apply w_val | apply q_ends)); (focus exact rfl)))
    refine w_loopK [1, 2, 10] [1, 2, 7] (fun x : Unit => True) (fun x => 0) (fun x => [(4, .int .i64 0)]) (fun x => []) () trivial ⟨rfl, trivial⟩ trivial ?_
    rintro _ _ e2 σ2
    repeat' (first
      | with_reducible (first | refine Rd.p ?_ | refine zE ?_ | refine zE0 ?_)
      | with_reducible (first | refine zI fun y hy => ?_ | refine zL ?_ | refine zS ?_ | refine zA fun _ => ?_ | refine zV ?_ | refine zC ?_ | refine zG ?_ | refine zU ?_ | refine zG0 ?_ | refine zU0 ?_ | refine zF ?_)
      | with_reducible (first | refine zX ?_ | refine zD fun _ => ?_ | refine zD0 ?_ | refine zN ?_ | refine zF0 ?_ | refine zX0 ?_ | refine z1 ?_ | refine z2 ?_ | refine z3 ?_ | refine z4 ?_ | refine z5 ?_ | refine z6 ?_ | refine z7 ?_ | refine z8 ?_ | refine y1 ?_ | refine y2 ?_ | refine y3 ?_ | refine y4 ?_ | refine y5 ?_ | refine y6 ?_ | refine y7 ?_ | refine y8 ?_ | refine Rt.p (fun _ => ?_) fun _ => ?_)
      | ((with_reducible apply w_ixM); (focus exact rfl); (focus exact rfl); case' hk => intro y hy) | ((with_reducible (first | apply w_val | apply q_ends)); (focus exact rfl)))
    refine w_frzP1 (i := 7) (s := 1) (u := 2) (g := g6) (gb := g1) (ub := g2) (xs := pre.map turnG ++ []) (cu := [.nsl, .nsl]) guestR (by decide) (by decide) (by simp; omega) rfl rfl rfl rfl rfl rfl rfl (fun _ _ _ => rfl) ?_
    intro e3 σ3
    repeat' (first
      | with_reducible (first | refine Rd.p ?_ | refine zE ?_ | refine zE0 ?_)
      | with_reducible (first | refine zI fun y hy => ?_ | refine zL ?_ | refine zS ?_ | refine zA fun _ => ?_ | refine zV ?_ | refine zC ?_ | refine zG ?_ | refine zU ?_ | refine zG0 ?_ | refine zU0 ?_ | refine zF ?_)
      | with_reducible (first | refine zX ?_ | refine zD fun _ => ?_ | refine zD0 ?_ | refine zN ?_ | refine zF0 ?_ | refine zX0 ?_ | refine z1 ?_ | refine z2 ?_ | refine z3 ?_ | refine z4 ?_ | refine z5 ?_ | refine z6 ?_ | refine z7 ?_ | refine z8 ?_ | refine y1 ?_ | refine y2 ?_ | refine y3 ?_ | refine y4 ?_ | refine y5 ?_ | refine y6 ?_ | refine y7 ?_ | refine y8 ?_ | refine Rt.p (fun _ => ?_) fun _ => ?_)
      | ((with_reducible apply w_ixM); (focus exact rfl); (focus exact rfl); case' hk => intro y hy) | ((with_reducible (first | apply w_val | apply q_ends)); (focus exact rfl)))
    rw [hl]
    simp only [List.append_nil]
    rfl
end Go.Abs
