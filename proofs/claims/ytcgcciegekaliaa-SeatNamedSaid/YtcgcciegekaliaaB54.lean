/- A part of the proofs of the laws of this seat: contracts of the functions that they reach, each proved of the program's form in Lean. No condition beyond those that each contract names. -/
import Derived.Test.YtcgcciegekaliaaB0
import Derived.Test.YtcgcciegekaliaaB8
import Derived.Test.YtcgcciegekaliaaB9
import Derived.Test.YtcgcciegekaliaaB10
import Derived.Test.YtcgcciegekaliaaB11
import Derived.Test.YtcgcciegekaliaaB20
import Derived.Test.YtcgcciegekaliaaB29
import Derived.Test.YtcgcciegekaliaaB32
import Derived.Test.YtcgcciegekaliaaB33a
import Derived.Test.YtcgcciegekaliaaB55
set_option linter.unusedVariables false
set_option linter.unusedSimpArgs false
set_option maxRecDepth 20000
set_option maxHeartbeats 4000000
/-! ### Parties whose guests get other numbers: the walk -/
namespace Go.Abs
open Go.Proofs
section
variable {P : Program} {α : Type} {row : α → List AV} {sz : Nat}
theorem setL_get2 {β : Type} : ∀ (xs pre ys post : List β), xs.length = ys.length → setL (pre ++ ys ++ post) pre.length xs = pre ++ xs ++ post
  | [], pre, [], post, _ => rfl
  | [], pre, y :: ys, post, h => by simp at h
  | x :: xs, pre, [], post, h => by simp at h
  | x :: xs, pre, y :: ys, post, h => by
    have e : (pre ++ (y :: ys) ++ post).set pre.length x = (pre ++ [x]) ++ ys ++ post := by simp
    rw [setL, e, show pre.length + 1 = (pre ++ [x]).length by simp, setL_get2 xs (pre ++ [x]) ys post (by simpa using h)]
    simp
theorem FlatR.setRow (h : FlatR row sz) {pre post : List α} {y y' : α} : setL ((pre ++ y :: post).map row).flatten (pre.length * sz) (row y') = ((pre ++ y' :: post).map row).flatten := by
  have e : ∀ z, ((pre ++ z :: post).map row).flatten = (pre.map row).flatten ++ row z ++ (post.map row).flatten := fun z => by simp
  rw [e, e, ← h.flat_len pre]; exact setL_get2 _ _ _ _ (by rw [h.len, h.len])
/-- A struct is stored whole. -/
theorem w_stRow {K : (Nat → AV) → Sig → Prop} {e : Nat → AV} {σ : Sig} {x v : IOpd} {r : List IStep} {i g off : Nat} {xs : List α} {k : Nat} {y' : α} (hR : FlatR row sz) (hx : x.ev e = .ref i g off) (hσ : σ i = (g, .row (xs.map row).flatten)) (ho : off = k * sz) (hk0 : k < xs.length) (hv : v.ev e = .agg (row y'))
    (hk : stepsW P r K e (upd σ i (g, .row ((xs.set k y').map row).flatten))) : stepsW P (⟨none, none, .st sz x v⟩ :: r) K e σ := by
  have hlen := hR.flat_len xs
  have hle : off + sz ≤ xs.length * sz := by rw [ho, ← Nat.succ_mul]; exact Nat.mul_le_mul_right _ hk0
  refine w_det0 (p := g = g ∧ ((row y').length = sz ∧ (row y').all AV.scal = true) ∧ off + sz ≤ (xs.map row).flatten.length) (v := .junk) (σ' := upd σ i (g, .row (setL (xs.map row).flatten off (row y')))) (fun _ => ?_) ⟨rfl, ⟨hR.len _, hR.scal _⟩, by rw [hlen]; exact hle⟩ ?_
  · show stO sz σ (v.ev e) (x.ev e) = _
    rw [hx, hv]; simp only [stO, cellsO, hσ]
  · have e1 : xs = xs.take k ++ xs[k] :: xs.drop (k + 1) := by rw [List.getElem_cons_drop, List.take_append_drop]
    have e2 : xs.set k y' = xs.take k ++ y' :: xs.drop (k + 1) := by rw [List.set_eq_take_append_cons_drop, if_pos hk0]
    have e3 : (xs.take k).length = k := by rw [List.length_take]; omega
    have := hR.setRow (pre := xs.take k) (y := xs[k]) (post := xs.drop (k + 1)) (y' := y')
    rw [e3, ← e1, ← e2] at this
    rw [ho, this]; exact hk
end
theorem nmG_step {o : List Int} {gs : List Guest} {pre post cur : List Guest} {y : Guest} (ho : isPerm gs.length o) (hp : gs = pre ++ y :: post) (hl : cur.length = gs.length) (h : ∀ j : Nat, j < pre.length → cur[(getI o j).toNat]? = gs[j]?) :
    ∀ j : Nat, j < (pre ++ [y]).length → (cur.set (getI o pre.length).toNat y)[(getI o j).toNat]? = gs[j]? := by
  intro j hj
  have hn := congrArg List.length hp
  simp only [List.length_append, List.length_cons, List.length_nil] at hj hn
  have hb := getO_bd ho (g := (pre.length : Int)) (by omega)
  by_cases e : j = pre.length
  · subst e
    rw [List.getElem?_set_self (by omega), hp]; simp
  · have hb2 := getO_bd ho (g := (j : Int)) (by omega)
    rw [List.getElem?_set_ne]
    · exact h j (by omega)
    · intro e2
      have := getI_inj ho (a := (pre.length : Int)) (b := (j : Int)) (by omega) (by omega) (by omega)
      omega
/-- aloeswood/aloeswoodkit.NamedParty -/
def ir56 : IFn :=
  ⟨74, [(4, some (2, true))], (.seq (.ops [⟨(some 2), none, (.box 2 (.t 0))⟩,
    ⟨(some 4), none, (.new [.nsl, .nsl])⟩])
  (.seq (.ops [⟨(some 9), none, (.ld 2 true (.t 2))⟩,
    ⟨(some 10), none, (.callF 30 [(.t 9)])⟩,
    ⟨(some 5), none, (.new [.nsl, .nsl])⟩,
    ⟨none, none, (.st 2 (.t 5) (.t 10))⟩])
  (.seq (.seq (.ops [⟨(some 6), none, (.mov (.k (.int .i64 0)))⟩])
  (.blk 0 (.loop (.seq (.seq (.ops [⟨(some 11), none, (.mov (.t 6))⟩,
        ⟨(some 12), none, (.flA 0 (.t 2))⟩,
        ⟨(some 13), none, (.ld 1 false (.t 12))⟩,
        ⟨(some 14), none, (.len false (.t 13))⟩,
        ⟨(some 15), none, (.bin .lss (.t 11) (.t 14))⟩])
      (.cnd (.t 15)
        .skip
        (.exit 0)))
      (.seq (.blk 1 (.ops [⟨(some 18), none, (.flA 0 (.t 5))⟩,
          ⟨(some 19), none, (.ld 1 false (.t 18))⟩,
          ⟨(some 20), none, (.mov (.t 1))⟩,
          ⟨(some 21), none, (.mov (.t 6))⟩,
          ⟨(some 22), none, (.ixA 1 (.t 20) (.t 21))⟩,
          ⟨(some 23), none, (.ld 1 false (.t 22))⟩,
          ⟨(some 24), none, (.flA 0 (.t 2))⟩,
          ⟨(some 25), none, (.ld 1 false (.t 24))⟩,
          ⟨(some 26), none, (.mov (.t 6))⟩,
          ⟨(some 27), none, (.ixA 5 (.t 25) (.t 26))⟩,
          ⟨(some 28), none, (.ld 5 true (.t 27))⟩,
          ⟨(some 29), none, (.ixA 5 (.t 19) (.t 23))⟩,
          ⟨none, none, (.st 5 (.t 29) (.t 28))⟩]))
      (.ops [⟨(some 16), none, (.mov (.t 6))⟩,
        ⟨(some 17), none, (.bin .add (.t 16) (.k (.int .i64 1)))⟩,
        ⟨(some 6), none, (.mov (.t 17))⟩]))))))
  (.seq (.seq (.ops [⟨(some 7), none, (.mov (.k (.int .i64 0)))⟩])
  (.blk 2 (.loop (.seq (.seq (.ops [⟨(some 30), none, (.mov (.t 7))⟩,
        ⟨(some 31), none, (.flA 1 (.t 5))⟩,
        ⟨(some 32), none, (.ld 1 false (.t 31))⟩,
        ⟨(some 33), none, (.len false (.t 32))⟩,
        ⟨(some 34), none, (.bin .lss (.t 30) (.t 33))⟩])
      (.cnd (.t 34)
        .skip
        (.exit 2)))
      (.seq (.blk 3 (.seq (.ops [⟨(some 37), none, (.flA 1 (.t 5))⟩,
          ⟨(some 38), none, (.ld 1 false (.t 37))⟩,
          ⟨(some 39), none, (.mov (.t 7))⟩,
          ⟨(some 40), none, (.ixA 4 (.t 38) (.t 39))⟩,
          ⟨(some 8), none, (.mov (.t 40))⟩])
        (.seq (.seq (.ops [⟨(some 41), none, (.mov (.t 8))⟩,
          ⟨(some 42), none, (.nck (.t 41))⟩,
          ⟨(some 43), none, (.flA 0 (.t 42))⟩,
          ⟨(some 44), none, (.ld 1 false (.t 43))⟩,
          ⟨(some 45), none, (.callF 81 [(.t 44)])⟩,
          ⟨(some 46), none, (.bin .gtr (.t 45) (.k (.int .i64 0)))⟩])
        (.cnd (.t 46)
          (.ops [⟨(some 47), none, (.mov (.t 8))⟩,
            ⟨(some 48), none, (.mov (.t 1))⟩,
            ⟨(some 49), none, (.mov (.t 8))⟩,
            ⟨(some 50), none, (.nck (.t 49))⟩,
            ⟨(some 51), none, (.flA 1 (.t 50))⟩,
            ⟨(some 52), none, (.ld 1 false (.t 51))⟩,
            ⟨(some 53), none, (.ixA 1 (.t 48) (.t 52))⟩,
            ⟨(some 54), none, (.ld 1 false (.t 53))⟩,
            ⟨(some 55), none, (.nck (.t 47))⟩,
            ⟨(some 56), none, (.flA 1 (.t 55))⟩,
            ⟨none, none, (.st 1 (.t 56) (.t 54))⟩])
          .skip))
        (.seq (.ops [⟨(some 57), none, (.mov (.t 8))⟩,
          ⟨(some 58), none, (.nck (.t 57))⟩,
          ⟨(some 59), none, (.flA 0 (.t 58))⟩,
          ⟨(some 60), none, (.ld 1 false (.t 59))⟩,
          ⟨(some 61), none, (.callF 81 [(.t 60)])⟩,
          ⟨(some 62), none, (.bin .eql (.t 61) (.k (.int .i64 2)))⟩])
        (.cnd (.t 62)
          (.ops [⟨(some 63), none, (.mov (.t 8))⟩,
            ⟨(some 64), none, (.mov (.t 1))⟩,
            ⟨(some 65), none, (.mov (.t 8))⟩,
            ⟨(some 66), none, (.nck (.t 65))⟩,
            ⟨(some 67), none, (.flA 2 (.t 66))⟩,
            ⟨(some 68), none, (.ld 1 false (.t 67))⟩,
            ⟨(some 69), none, (.ixA 1 (.t 64) (.t 68))⟩,
            ⟨(some 70), none, (.ld 1 false (.t 69))⟩,
            ⟨(some 71), none, (.nck (.t 63))⟩,
            ⟨(some 72), none, (.flA 2 (.t 71))⟩,
            ⟨none, none, (.st 1 (.t 72) (.t 70))⟩])
          .skip)))))
      (.ops [⟨(some 35), none, (.mov (.t 7))⟩,
        ⟨(some 36), none, (.bin .add (.t 35) (.k (.int .i64 1)))⟩,
        ⟨(some 7), none, (.mov (.t 36))⟩]))))))
  (.seq (.seq (.frz (.t 19))
  (.seq (.frz (.t 32))
  (.ops [⟨(some 73), none, (.ld 2 true (.t 5))⟩,
    ⟨none, none, (.st 2 (.t 4) (.t 73))⟩])))
  .ret)))))⟩
def hint56 (P : Program) : Hint := { site := [], nils := [], frz := [(73, 19), (73, 32)], mve := [], wr := [] }

theorem namedR_c (g0 : Guest) (gs : List Guest) (r0 : Rule) (rs : List Rule) (o : List Int) (hg : gs.length ≤ 1000) (hr : rs.length ≤ 1000) (ho : isPerm (g0 :: gs).length o) (hrk : ∀ r ∈ r0 :: rs, rInv r (g0 :: gs).length) :
    Fn0 Try.prog 56 [pA (g0 :: gs) (r0 :: rs), .slc 1 (iR o) .non] (fun v => ∃ gs', v = pA gs' ((r0 :: rs).map (nmR o)) ∧ nmG o (g0 :: gs) gs') := by
  have hol := ho.len
  have hgl : (g0 :: gs).length = gs.length + 1 := rfl
  have hrl : (r0 :: rs).length = rs.length + 1 := rfl
  refine RawC.walk (H := hint56 Try.prog) ir56 Try.func56 rfl rfl rfl ?_
  unfold ir56
  repeat' (first
    | with_reducible (first | refine Rd.p ?_ | refine zE ?_ | refine zE0 ?_)
    | with_reducible (first | refine zI fun y hy => ?_ | refine zL ?_ | refine zS ?_ | refine zA fun _ => ?_ | refine zV ?_ | refine zC ?_ | refine zG ?_ | refine zU ?_ | refine zG0 ?_ | refine zU0 ?_ | refine zF ?_)
    | ((with_reducible refine acall_id ?_); (refine ACall.liftNS (ownPartyW_c g0 gs r0 rs (by omega) (by omega)) [] [(6, 10), (10, 3010)] rfl rfl rfl rfl trivial (fun _ => rfl) ?_; rintro ⟨g6, g10⟩ _ rfl))
    | with_reducible (first | refine zX ?_ | refine zD fun _ => ?_ | refine zD0 ?_ | refine zN ?_ | refine zF0 ?_ | refine zX0 ?_ | refine z1 ?_ | refine z2 ?_ | refine z3 ?_ | refine z4 ?_ | refine z5 ?_ | refine z6 ?_ | refine z7 ?_ | refine z8 ?_ | refine y1 ?_ | refine y2 ?_ | refine y3 ?_ | refine y4 ?_ | refine y5 ?_ | refine y6 ?_ | refine y7 ?_ | refine y8 ?_ | refine Rt.p (fun _ => ?_) fun _ => ?_)
    | ((with_reducible apply w_ixM); (focus exact rfl); (focus exact rfl); case' hk => intro y hy) | ((with_reducible (first | apply w_val | apply q_ends)); (focus exact rfl)))
  rename_i g2 g4 g5
  refine w_loopK [1, 2, 4, 5] [2, 4, 5] (fun x : List Guest × List Guest × List Guest × AV => g0 :: gs = x.1 ++ x.2.1 ∧ x.2.2.1.length = (g0 :: gs).length ∧ (∀ j : Nat, j < x.1.length → x.2.2.1[(getI o j).toNat]? = (g0 :: gs)[j]?) ∧ (x.1 = [] ∨ x.2.2.2 = .msl 10 g6 (g0 :: gs).length 5)) (fun x => x.2.1.length) (fun x => [(6, .int .i64 x.1.length), (19, x.2.2.2)])
    (fun x => [(10, (g6, .row (x.2.2.1.map Guest.row).flatten)), (3010, (g10, .row ((r0 :: rs).map Rule.row).flatten))]) ([], g0 :: gs, g0 :: gs, _) ⟨rfl, rfl, fun j hj => absurd hj (Nat.not_lt_zero _), .inl rfl⟩ ⟨rfl, rfl, trivial⟩
    (by exact ⟨congrArg (fun c => ((g6, Res.row c) : Nat × Res)) (guestR.rens _ (g0 :: gs)), congrArg (fun c => ((g10, Res.row c) : Nat × Res)) (ruleR.rens _ (r0 :: rs)), trivial⟩) ?_
  rintro ⟨pre, post, cur, v19⟩ ⟨hp, hcl, hat, h19⟩ e1 σ1
  dsimp only at hp hcl hat h19 ⊢
  have hlen := congrArg List.length hp
  cases post with
  | cons y post =>
    simp only [List.length_append, List.length_cons] at hlen
    have hb := getO_bd ho (g := (pre.length : Int)) (by omega)
    repeat' (first
      | with_reducible (first | refine Rd.p ?_ | refine zE ?_ | refine zE0 ?_)
      | (first | with_reducible refine zGi ?_ | refine w_ixP hp rfl rfl ?_)
      | with_reducible (first | refine zI fun y hy => ?_ | refine zL ?_ | refine zS ?_ | refine zA fun _ => ?_ | refine zV ?_ | refine zC ?_ | refine zG ?_ | refine zU ?_ | refine zG0 ?_ | refine zU0 ?_ | refine zF ?_)
      | with_reducible (first | refine zX ?_ | refine zD fun _ => ?_ | refine zD0 ?_ | refine zN ?_ | refine zF0 ?_ | refine zX0 ?_ | refine z1 ?_ | refine z2 ?_ | refine z3 ?_ | refine z4 ?_ | refine z5 ?_ | refine z6 ?_ | refine z7 ?_ | refine z8 ?_ | refine y1 ?_ | refine y2 ?_ | refine y3 ?_ | refine y4 ?_ | refine y5 ?_ | refine y6 ?_ | refine y7 ?_ | refine y8 ?_ | refine Rt.p (fun _ => ?_) fun _ => ?_)
      | ((with_reducible apply w_ixM); (focus exact rfl); (focus exact rfl); case' hk => intro y hy) | ((with_reducible (first | apply w_val | apply q_ends)); (focus exact rfl)))
    refine w_stRow guestR (i := 10) (g := g6) (xs := cur) (k := (getI o pre.length).toNat) (y' := y) rfl rfl rfl (by omega) rfl ?_
    repeat' (first
      | with_reducible (first | refine Rd.p ?_ | refine zE ?_ | refine zE0 ?_)
      | with_reducible (first | refine zI fun y hy => ?_ | refine zL ?_ | refine zS ?_ | refine zA fun _ => ?_ | refine zV ?_ | refine zC ?_ | refine zG ?_ | refine zU ?_ | refine zG0 ?_ | refine zU0 ?_ | refine zF ?_)
      | with_reducible (first | refine zX ?_ | refine zD fun _ => ?_ | refine zD0 ?_ | refine zN ?_ | refine zF0 ?_ | refine zX0 ?_ | refine z1 ?_ | refine z2 ?_ | refine z3 ?_ | refine z4 ?_ | refine z5 ?_ | refine z6 ?_ | refine z7 ?_ | refine z8 ?_ | refine y1 ?_ | refine y2 ?_ | refine y3 ?_ | refine y4 ?_ | refine y5 ?_ | refine y6 ?_ | refine y7 ?_ | refine y8 ?_ | refine Rt.p (fun _ => ?_) fun _ => ?_)
      | ((with_reducible apply w_ixM); (focus exact rfl); (focus exact rfl); case' hk => intro y hy) | ((with_reducible (first | apply w_val | apply q_ends)); (focus exact rfl)))
    refine q_loop (pre ++ [y], post, _, _) ?_ ?_ (by repeat' (first | exact slots_nil | apply slots_cons | rfl | (rw [map_snoc]; rfl) | (rw [len_snoc]; rfl) | (rw [hS]; rfl) | (rw [hS, map_snoc]; rfl) | (refine int_eq ?_; (try dsimp only); omega) | (refine congrArg AV.bool ?_; simp_all; done))) (by exact ⟨rfl, rfl, trivial⟩) (by repeat' (first | exact kept_nil | apply kept_cons | rfl)) (by repeat' (first | exact kept_nil | apply kept_cons | rfl))
    · refine ⟨by rw [hp]; simp, by dsimp only; rw [List.length_set]; exact hcl, nmG_step ho hp hcl hat, .inr rfl⟩
    · simp
  | nil =>
    simp only [List.append_nil, List.length_append, List.length_nil] at hlen hp
    have hv : v19 = .msl 10 g6 (g0 :: gs).length 5 := by
      rcases h19 with h | h
      · subst h; cases hp
      · exact h
    subst hv
    repeat' (first
      | with_reducible (first | refine Rd.p ?_ | refine zE ?_ | refine zE0 ?_)
      | with_reducible (first | refine zI fun y hy => ?_ | refine zL ?_ | refine zS ?_ | refine zA fun _ => ?_ | refine zV ?_ | refine zC ?_ | refine zG ?_ | refine zU ?_ | refine zG0 ?_ | refine zU0 ?_ | refine zF ?_)
      | with_reducible (first | refine zX ?_ | refine zD fun _ => ?_ | refine zD0 ?_ | refine zN ?_ | refine zF0 ?_ | refine zX0 ?_ | refine z1 ?_ | refine z2 ?_ | refine z3 ?_ | refine z4 ?_ | refine z5 ?_ | refine z6 ?_ | refine z7 ?_ | refine z8 ?_ | refine y1 ?_ | refine y2 ?_ | refine y3 ?_ | refine y4 ?_ | refine y5 ?_ | refine y6 ?_ | refine y7 ?_ | refine y8 ?_ | refine Rt.p (fun _ => ?_) fun _ => ?_)
      | ((with_reducible apply w_ixM); (focus exact rfl); (focus exact rfl); case' hk => intro y hy) | ((with_reducible (first | apply w_val | apply q_ends)); (focus exact rfl)))
    refine w_loopK [1, 4, 5, 19] [4, 5, 10] (fun x : List Rule × List Rule => r0 :: rs = x.1 ++ x.2) (fun x => x.2.length) (fun x => [(7, .int .i64 x.1.length)])
      (fun x => [(3010, (g10, .row ((x.1.map (nmR o) ++ x.2).map Rule.row).flatten))]) ([], r0 :: rs) rfl ⟨rfl, trivial⟩ ⟨rfl, trivial⟩ ?_
    rintro ⟨pre2, post2⟩ hl2 e2 σ2
    dsimp only at hl2 ⊢
    have hlen2 := congrArg List.length hl2
    cases post2 with
    | cons y post2 =>
      simp only [List.length_append, List.length_cons] at hlen2
      have hyi := hrk y (by rw [hl2]; simp)
      have hya := hyi.a
      have hyb := hyi.b
      have hnb := nmV_bd y.kind
      have hnx : ∀ y', y' = nmR o y → pre2.map (nmR o) ++ y' :: post2 = (pre2 ++ [y]).map (nmR o) ++ post2 := fun y' h => by subst h; simp
      repeat' (first
        | with_reducible (first | refine Rd.p ?_ | refine zE ?_ | refine zE0 ?_)
        | (first | with_reducible refine zLd ruleR 3010 0 ?_ | with_reducible refine zLd ruleR 3010 1 ?_ | with_reducible refine zLd ruleR 3010 2 ?_ | with_reducible refine zGi ?_)
        | with_reducible (first | refine zI fun y hy => ?_ | refine zL ?_ | refine zS ?_ | refine zA fun _ => ?_ | refine zV ?_ | refine zC ?_ | refine zG ?_ | refine zU ?_ | refine zG0 ?_ | refine zU0 ?_ | refine zF ?_)
        | ((with_reducible refine acall_id ?_); refine ACall.val (rNamed_c _) rfl rfl ?_)
        | with_reducible (first | refine zX ?_ | refine zD fun _ => ?_ | refine zD0 ?_ | refine zN ?_ | refine zF0 ?_ | refine zX0 ?_ | refine z1 ?_ | refine z2 ?_ | refine z3 ?_ | refine z4 ?_ | refine z5 ?_ | refine z6 ?_ | refine z7 ?_ | refine z8 ?_ | refine y1 ?_ | refine y2 ?_ | refine y3 ?_ | refine y4 ?_ | refine y5 ?_ | refine y6 ?_ | refine y7 ?_ | refine y8 ?_ | refine Rt.p (fun _ => ?_) fun _ => ?_)
        | ((with_reducible apply w_ixM); (focus exact rfl); (focus exact rfl); case' hk => intro y hy) | ((with_reducible (first | apply w_val | apply q_ends)); (focus exact rfl)))
      · rename_i h1
        refine w_stM ruleR (i := 3010) (g := g10) (pre := pre2.map (nmR o)) (y := y) (post := post2) (y' := ⟨y.kind, getI o y.a, y.b, y.weight⟩) (j := 1) (c := .int .i64 (getI o y.a)) rfl rfl (by simp) (by omega) rfl rfl ?_
        repeat' (first
          | with_reducible (first | refine Rd.p ?_ | refine zE ?_ | refine zE0 ?_)
          | (first | with_reducible refine zLd ruleR 3010 0 ?_ | with_reducible refine zLd ruleR 3010 1 ?_ | with_reducible refine zLd ruleR 3010 2 ?_ | with_reducible refine zGi ?_)
          | with_reducible (first | refine zI fun y hy => ?_ | refine zL ?_ | refine zS ?_ | refine zA fun _ => ?_ | refine zV ?_ | refine zC ?_ | refine zG ?_ | refine zU ?_ | refine zG0 ?_ | refine zU0 ?_ | refine zF ?_)
          | ((with_reducible refine acall_id ?_); refine ACall.val (rNamed_c _) rfl rfl ?_)
          | with_reducible (first | refine zX ?_ | refine zD fun _ => ?_ | refine zD0 ?_ | refine zN ?_ | refine zF0 ?_ | refine zX0 ?_ | refine z1 ?_ | refine z2 ?_ | refine z3 ?_ | refine z4 ?_ | refine z5 ?_ | refine z6 ?_ | refine z7 ?_ | refine z8 ?_ | refine y1 ?_ | refine y2 ?_ | refine y3 ?_ | refine y4 ?_ | refine y5 ?_ | refine y6 ?_ | refine y7 ?_ | refine y8 ?_ | refine Rt.p (fun _ => ?_) fun _ => ?_)
          | ((with_reducible apply w_ixM); (focus exact rfl); (focus exact rfl); case' hk => intro y hy) | ((with_reducible (first | apply w_val | apply q_ends)); (focus exact rfl)))
        · rename_i h2
          refine w_stM ruleR (i := 3010) (g := g10) (pre := pre2.map (nmR o)) (y := ⟨y.kind, getI o y.a, y.b, y.weight⟩) (post := post2) (y' := ⟨y.kind, getI o y.a, getI o y.b, y.weight⟩) (j := 2) (c := .int .i64 (getI o y.b)) rfl rfl (by simp) (by omega) rfl rfl ?_
          repeat' (first
            | with_reducible (first | refine Rd.p ?_ | refine zE ?_ | refine zE0 ?_)
            | with_reducible (first | refine zI fun y hy => ?_ | refine zL ?_ | refine zS ?_ | refine zA fun _ => ?_ | refine zV ?_ | refine zC ?_ | refine zG ?_ | refine zU ?_ | refine zG0 ?_ | refine zU0 ?_ | refine zF ?_)
            | with_reducible (first | refine zX ?_ | refine zD fun _ => ?_ | refine zD0 ?_ | refine zN ?_ | refine zF0 ?_ | refine zX0 ?_ | refine z1 ?_ | refine z2 ?_ | refine z3 ?_ | refine z4 ?_ | refine z5 ?_ | refine z6 ?_ | refine z7 ?_ | refine z8 ?_ | refine y1 ?_ | refine y2 ?_ | refine y3 ?_ | refine y4 ?_ | refine y5 ?_ | refine y6 ?_ | refine y7 ?_ | refine y8 ?_ | refine Rt.p (fun _ => ?_) fun _ => ?_)
            | ((with_reducible apply w_ixM); (focus exact rfl); (focus exact rfl); case' hk => intro y hy) | ((with_reducible (first | apply w_val | apply q_ends)); (focus exact rfl)))
          refine q_loop (pre2 ++ [y], post2) ?_ ?_ (by repeat' (first | exact slots_nil | apply slots_cons | rfl | (rw [map_snoc]; rfl) | (rw [len_snoc]; rfl) | (rw [hS]; rfl) | (rw [hS, map_snoc]; rfl) | (refine int_eq ?_; (try dsimp only); omega) | (refine congrArg AV.bool ?_; simp_all; done))) (by exact ⟨congrArg (fun l : List Rule => ((g10, Res.row (l.map Rule.row).flatten) : Nat × Res)) (hnx ⟨y.kind, getI o y.a, getI o y.b, y.weight⟩ (by rw [nmR, if_pos h1, if_pos h2])), trivial⟩) (by repeat' (first | exact kept_nil | apply kept_cons | rfl)) (by repeat' (first | exact kept_nil | apply kept_cons | rfl))
          · rw [hl2]; simp
          · simp
        · rename_i h2
          refine q_loop (pre2 ++ [y], post2) ?_ ?_ (by repeat' (first | exact slots_nil | apply slots_cons | rfl | (rw [map_snoc]; rfl) | (rw [len_snoc]; rfl) | (rw [hS]; rfl) | (rw [hS, map_snoc]; rfl) | (refine int_eq ?_; (try dsimp only); omega) | (refine congrArg AV.bool ?_; simp_all; done))) (by exact ⟨congrArg (fun l : List Rule => ((g10, Res.row (l.map Rule.row).flatten) : Nat × Res)) (hnx ⟨y.kind, getI o y.a, y.b, y.weight⟩ (by rw [nmR, if_pos h1, if_neg h2])), trivial⟩) (by repeat' (first | exact kept_nil | apply kept_cons | rfl)) (by repeat' (first | exact kept_nil | apply kept_cons | rfl))
          · rw [hl2]; simp
          · simp
      · rename_i h1
        refine q_loop (pre2 ++ [y], post2) ?_ ?_ (by repeat' (first | exact slots_nil | apply slots_cons | rfl | (rw [map_snoc]; rfl) | (rw [len_snoc]; rfl) | (rw [hS]; rfl) | (rw [hS, map_snoc]; rfl) | (refine int_eq ?_; (try dsimp only); omega) | (refine congrArg AV.bool ?_; simp_all; done))) (by exact ⟨congrArg (fun l : List Rule => ((g10, Res.row (l.map Rule.row).flatten) : Nat × Res)) (hnx y (by rw [nmR, if_neg h1, if_neg (by omega)])), trivial⟩) (by repeat' (first | exact kept_nil | apply kept_cons | rfl)) (by repeat' (first | exact kept_nil | apply kept_cons | rfl))
        · rw [hl2]; simp
        · simp
    | nil =>
      simp only [List.append_nil, List.length_append, List.length_nil] at hlen2 hl2
      repeat' (first
        | with_reducible (first | refine Rd.p ?_ | refine zE ?_ | refine zE0 ?_)
        | with_reducible (first | refine zI fun y hy => ?_ | refine zL ?_ | refine zS ?_ | refine zA fun _ => ?_ | refine zV ?_ | refine zC ?_ | refine zG ?_ | refine zU ?_ | refine zG0 ?_ | refine zU0 ?_ | refine zF ?_)
        | with_reducible (first | refine zX ?_ | refine zD fun _ => ?_ | refine zD0 ?_ | refine zN ?_ | refine zF0 ?_ | refine zX0 ?_ | refine z1 ?_ | refine z2 ?_ | refine z3 ?_ | refine z4 ?_ | refine z5 ?_ | refine z6 ?_ | refine z7 ?_ | refine z8 ?_ | refine y1 ?_ | refine y2 ?_ | refine y3 ?_ | refine y4 ?_ | refine y5 ?_ | refine y6 ?_ | refine y7 ?_ | refine y8 ?_ | refine Rt.p (fun _ => ?_) fun _ => ?_)
        | ((with_reducible apply w_ixM); (focus exact rfl); (focus exact rfl); case' hk => intro y hy) | ((with_reducible (first | apply w_val | apply q_ends)); (focus exact rfl)))
      refine w_frzP (i := 10) (j := 3010) (s := 5) (u := 4) (g := g6) (h := g10) (gb := g5) (ub := g4) (xs := cur) (ys := pre2.map (nmR o) ++ []) (cu := [.nsl, .nsl]) guestR ruleR (by decide) (by decide) (by decide) (by decide) (by decide) (by omega) (by simp; omega) rfl rfl rfl rfl rfl rfl rfl rfl (fun _ _ _ => rfl) ?_
      intro e3 σ3
      repeat' (first
        | with_reducible (first | refine Rd.p ?_ | refine zE ?_ | refine zE0 ?_)
        | with_reducible (first | refine zI fun y hy => ?_ | refine zL ?_ | refine zS ?_ | refine zA fun _ => ?_ | refine zV ?_ | refine zC ?_ | refine zG ?_ | refine zU ?_ | refine zG0 ?_ | refine zU0 ?_ | refine zF ?_)
        | with_reducible (first | refine zX ?_ | refine zD fun _ => ?_ | refine zD0 ?_ | refine zN ?_ | refine zF0 ?_ | refine zX0 ?_ | refine z1 ?_ | refine z2 ?_ | refine z3 ?_ | refine z4 ?_ | refine z5 ?_ | refine z6 ?_ | refine z7 ?_ | refine z8 ?_ | refine y1 ?_ | refine y2 ?_ | refine y3 ?_ | refine y4 ?_ | refine y5 ?_ | refine y6 ?_ | refine y7 ?_ | refine y8 ?_ | refine Rt.p (fun _ => ?_) fun _ => ?_)
        | ((with_reducible apply w_ixM); (focus exact rfl); (focus exact rfl); case' hk => intro y hy) | ((with_reducible (first | apply w_val | apply q_ends)); (focus exact rfl)))
      refine ⟨cur, ?_, hcl, fun j hj => hat j (by omega)⟩
      rw [hl2]
      simp only [List.append_nil]
      rfl
theorem namedR0_c (g0 : Guest) (gs : List Guest) (o : List Int) (hg : gs.length ≤ 1000) (ho : isPerm (g0 :: gs).length o) :
    Fn0 Try.prog 56 [pA (g0 :: gs) [], .slc 1 (iR o) .non] (fun v => ∃ gs', v = pA gs' [] ∧ nmG o (g0 :: gs) gs') := by
  have hol := ho.len
  have hgl : (g0 :: gs).length = gs.length + 1 := rfl
  refine RawC.walk (H := hint56 Try.prog) ir56 Try.func56 rfl rfl rfl ?_
  unfold ir56
  repeat' (first
    | with_reducible (first | refine Rd.p ?_ | refine zE ?_ | refine zE0 ?_)
    | with_reducible (first | refine zI fun y hy => ?_ | refine zL ?_ | refine zS ?_ | refine zA fun _ => ?_ | refine zV ?_ | refine zC ?_ | refine zG ?_ | refine zU ?_ | refine zG0 ?_ | refine zU0 ?_ | refine zF ?_)
    | ((with_reducible refine acall_id ?_); (refine ACall.liftNS (ownPartyW0_c g0 gs (by omega)) [] [(6, 10)] rfl rfl rfl rfl trivial (fun _ => rfl) ?_; rintro g6 _ rfl))
    | with_reducible (first | refine zX ?_ | refine zD fun _ => ?_ | refine zD0 ?_ | refine zN ?_ | refine zF0 ?_ | refine zX0 ?_ | refine z1 ?_ | refine z2 ?_ | refine z3 ?_ | refine z4 ?_ | refine z5 ?_ | refine z6 ?_ | refine z7 ?_ | refine z8 ?_ | refine y1 ?_ | refine y2 ?_ | refine y3 ?_ | refine y4 ?_ | refine y5 ?_ | refine y6 ?_ | refine y7 ?_ | refine y8 ?_ | refine Rt.p (fun _ => ?_) fun _ => ?_)
    | ((with_reducible apply w_ixM); (focus exact rfl); (focus exact rfl); case' hk => intro y hy) | ((with_reducible (first | apply w_val | apply q_ends)); (focus exact rfl)))
  rename_i g2 g4 g5
  refine w_loopK [1, 2, 4, 5] [2, 4, 5] (fun x : List Guest × List Guest × List Guest × AV => g0 :: gs = x.1 ++ x.2.1 ∧ x.2.2.1.length = (g0 :: gs).length ∧ (∀ j : Nat, j < x.1.length → x.2.2.1[(getI o j).toNat]? = (g0 :: gs)[j]?) ∧ (x.1 = [] ∨ x.2.2.2 = .msl 10 g6 (g0 :: gs).length 5)) (fun x => x.2.1.length) (fun x => [(6, .int .i64 x.1.length), (19, x.2.2.2)])
    (fun x => [(10, (g6, .row (x.2.2.1.map Guest.row).flatten))]) ([], g0 :: gs, g0 :: gs, _) ⟨rfl, rfl, fun j hj => absurd hj (Nat.not_lt_zero _), .inl rfl⟩ ⟨rfl, rfl, trivial⟩
    (by exact ⟨congrArg (fun c => ((g6, Res.row c) : Nat × Res)) (guestR.rens _ (g0 :: gs)), trivial⟩) ?_
  rintro ⟨pre, post, cur, v19⟩ ⟨hp, hcl, hat, h19⟩ e1 σ1
  dsimp only at hp hcl hat h19 ⊢
  have hlen := congrArg List.length hp
  cases post with
  | cons y post =>
    simp only [List.length_append, List.length_cons] at hlen
    have hb := getO_bd ho (g := (pre.length : Int)) (by omega)
    repeat' (first
      | with_reducible (first | refine Rd.p ?_ | refine zE ?_ | refine zE0 ?_)
      | (first | with_reducible refine zGi ?_ | refine w_ixP hp rfl rfl ?_)
      | with_reducible (first | refine zI fun y hy => ?_ | refine zL ?_ | refine zS ?_ | refine zA fun _ => ?_ | refine zV ?_ | refine zC ?_ | refine zG ?_ | refine zU ?_ | refine zG0 ?_ | refine zU0 ?_ | refine zF ?_)
      | with_reducible (first | refine zX ?_ | refine zD fun _ => ?_ | refine zD0 ?_ | refine zN ?_ | refine zF0 ?_ | refine zX0 ?_ | refine z1 ?_ | refine z2 ?_ | refine z3 ?_ | refine z4 ?_ | refine z5 ?_ | refine z6 ?_ | refine z7 ?_ | refine z8 ?_ | refine y1 ?_ | refine y2 ?_ | refine y3 ?_ | refine y4 ?_ | refine y5 ?_ | refine y6 ?_ | refine y7 ?_ | refine y8 ?_ | refine Rt.p (fun _ => ?_) fun _ => ?_)
      | ((with_reducible apply w_ixM); (focus exact rfl); (focus exact rfl); case' hk => intro y hy) | ((with_reducible (first | apply w_val | apply q_ends)); (focus exact rfl)))
    refine w_stRow guestR (i := 10) (g := g6) (xs := cur) (k := (getI o pre.length).toNat) (y' := y) rfl rfl rfl (by omega) rfl ?_
    repeat' (first
      | with_reducible (first | refine Rd.p ?_ | refine zE ?_ | refine zE0 ?_)
      | with_reducible (first | refine zI fun y hy => ?_ | refine zL ?_ | refine zS ?_ | refine zA fun _ => ?_ | refine zV ?_ | refine zC ?_ | refine zG ?_ | refine zU ?_ | refine zG0 ?_ | refine zU0 ?_ | refine zF ?_)
      | with_reducible (first | refine zX ?_ | refine zD fun _ => ?_ | refine zD0 ?_ | refine zN ?_ | refine zF0 ?_ | refine zX0 ?_ | refine z1 ?_ | refine z2 ?_ | refine z3 ?_ | refine z4 ?_ | refine z5 ?_ | refine z6 ?_ | refine z7 ?_ | refine z8 ?_ | refine y1 ?_ | refine y2 ?_ | refine y3 ?_ | refine y4 ?_ | refine y5 ?_ | refine y6 ?_ | refine y7 ?_ | refine y8 ?_ | refine Rt.p (fun _ => ?_) fun _ => ?_)
      | ((with_reducible apply w_ixM); (focus exact rfl); (focus exact rfl); case' hk => intro y hy) | ((with_reducible (first | apply w_val | apply q_ends)); (focus exact rfl)))
    refine q_loop (pre ++ [y], post, _, _) ?_ ?_ (by repeat' (first | exact slots_nil | apply slots_cons | rfl | (rw [map_snoc]; rfl) | (rw [len_snoc]; rfl) | (rw [hS]; rfl) | (rw [hS, map_snoc]; rfl) | (refine int_eq ?_; (try dsimp only); omega) | (refine congrArg AV.bool ?_; simp_all; done))) (by exact ⟨rfl, trivial⟩) (by repeat' (first | exact kept_nil | apply kept_cons | rfl)) (by repeat' (first | exact kept_nil | apply kept_cons | rfl))
    · refine ⟨by rw [hp]; simp, by dsimp only; rw [List.length_set]; exact hcl, nmG_step ho hp hcl hat, .inr rfl⟩
    · simp
  | nil =>
    simp only [List.append_nil, List.length_append, List.length_nil] at hlen hp
    have hv : v19 = .msl 10 g6 (g0 :: gs).length 5 := by
      rcases h19 with h | h
      · subst h; cases hp
      · exact h
    subst hv
    have hz : ([] : List Rule).length = 0 := rfl
    repeat' (first
      | with_reducible (first | refine Rd.p ?_ | refine zE ?_ | refine zE0 ?_)
      | with_reducible (first | refine zI fun y hy => ?_ | refine zL ?_ | refine zS ?_ | refine zA fun _ => ?_ | refine zV ?_ | refine zC ?_ | refine zG ?_ | refine zU ?_ | refine zG0 ?_ | refine zU0 ?_ | refine zF ?_)
      | with_reducible (first | refine zX ?_ | refine zD fun _ => ?_ | refine zD0 ?_ | refine zN ?_ | refine zF0 ?_ | refine zX0 ?_ | refine z1 ?_ | refine z2 ?_ | refine z3 ?_ | refine z4 ?_ | refine z5 ?_ | refine z6 ?_ | refine z7 ?_ | refine z8 ?_ | refine y1 ?_ | refine y2 ?_ | refine y3 ?_ | refine y4 ?_ | refine y5 ?_ | refine y6 ?_ | refine y7 ?_ | refine y8 ?_ | refine Rt.p (fun _ => ?_) fun _ => ?_)
      | ((with_reducible apply w_ixM); (focus exact rfl); (focus exact rfl); case' hk => intro y hy) | ((with_reducible (first | apply w_val | apply q_ends)); (focus exact rfl)))
    refine w_loopK [1, 4, 5, 19] [4, 5, 10] (fun x : Unit => True) (fun x => 0) (fun x => [(7, .int .i64 0)]) (fun x => []) () trivial ⟨rfl, trivial⟩ trivial ?_
    rintro _ _ e2 σ2
    repeat' (first
      | with_reducible (first | refine Rd.p ?_ | refine zE ?_ | refine zE0 ?_)
      | with_reducible (first | refine zI fun y hy => ?_ | refine zL ?_ | refine zS ?_ | refine zA fun _ => ?_ | refine zV ?_ | refine zC ?_ | refine zG ?_ | refine zU ?_ | refine zG0 ?_ | refine zU0 ?_ | refine zF ?_)
      | with_reducible (first | refine zX ?_ | refine zD fun _ => ?_ | refine zD0 ?_ | refine zN ?_ | refine zF0 ?_ | refine zX0 ?_ | refine z1 ?_ | refine z2 ?_ | refine z3 ?_ | refine z4 ?_ | refine z5 ?_ | refine z6 ?_ | refine z7 ?_ | refine z8 ?_ | refine y1 ?_ | refine y2 ?_ | refine y3 ?_ | refine y4 ?_ | refine y5 ?_ | refine y6 ?_ | refine y7 ?_ | refine y8 ?_ | refine Rt.p (fun _ => ?_) fun _ => ?_)
      | ((with_reducible apply w_ixM); (focus exact rfl); (focus exact rfl); case' hk => intro y hy) | ((with_reducible (first | apply w_val | apply q_ends)); (focus exact rfl)))
    refine w_frzP1 (i := 10) (s := 5) (u := 4) (g := g6) (gb := g5) (ub := g4) (xs := cur) (cu := [.nsl, .nsl]) guestR (by decide) (by decide) (by omega) rfl rfl rfl rfl rfl rfl rfl (fun _ _ _ => rfl) ?_
    intro e3 σ3
    repeat' (first
      | with_reducible (first | refine Rd.p ?_ | refine zE ?_ | refine zE0 ?_)
      | with_reducible (first | refine zI fun y hy => ?_ | refine zL ?_ | refine zS ?_ | refine zA fun _ => ?_ | refine zV ?_ | refine zC ?_ | refine zG ?_ | refine zU ?_ | refine zG0 ?_ | refine zU0 ?_ | refine zF ?_)
      | with_reducible (first | refine zX ?_ | refine zD fun _ => ?_ | refine zD0 ?_ | refine zN ?_ | refine zF0 ?_ | refine zX0 ?_ | refine z1 ?_ | refine z2 ?_ | refine z3 ?_ | refine z4 ?_ | refine z5 ?_ | refine z6 ?_ | refine z7 ?_ | refine z8 ?_ | refine y1 ?_ | refine y2 ?_ | refine y3 ?_ | refine y4 ?_ | refine y5 ?_ | refine y6 ?_ | refine y7 ?_ | refine y8 ?_ | refine Rt.p (fun _ => ?_) fun _ => ?_)
      | ((with_reducible apply w_ixM); (focus exact rfl); (focus exact rfl); case' hk => intro y hy) | ((with_reducible (first | apply w_val | apply q_ends)); (focus exact rfl)))
    exact ⟨cur, rfl, hcl, fun j hj => hat j (by omega)⟩
end Go.Abs
