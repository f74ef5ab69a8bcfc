/- A part of the proofs of the laws of this seat: contracts of the functions that they reach, each proved of the program's form in Lean. No condition beyond those that each contract names. -/
import Derived.Test.YtcgcciegekaliaaB16
import Derived.Test.YtcgcciegekaliaaB11
import Derived.Test.YtcgcciegekaliaaB0
import Derived.Test.YtcgcciegekaliaaB8
import Derived.Test.YtcgcciegekaliaaB25
import Derived.Test.YtcgcciegekaliaaB20
import Derived.Test.YtcgcciegekaliaaB12
set_option linter.unusedVariables false
set_option linter.unusedSimpArgs false
set_option maxRecDepth 20000
set_option maxHeartbeats 4000000
/-! ### Sure, the program's -/
namespace Go.Abs
open Go.Proofs
/-- aloeswood/seat.Sure -/
def ir45 : IFn :=
  ⟨93, [(2, none), (3, none)], (.seq (.ops [⟨(some 1), none, (.box 2 (.t 0))⟩,
    ⟨(some 2), none, (.mov (.k .nsl))⟩,
    ⟨(some 3), none, (.mov (.k (.int .i64 0)))⟩])
  (.seq (.seq (.ops [⟨(some 17), none, (.ld 2 true (.t 1))⟩,
    ⟨(some 18), none, (.callF 39 [(.t 17)])⟩,
    ⟨(some 4), none, (.mov (.t 18))⟩])
  (.seq (.ops [⟨(some 19), none, (.mov (.t 4))⟩,
    ⟨(some 20), none, (.bin .neq (.t 19) (.k (.int .i64 0)))⟩])
  (.cnd (.t 20)
    (.seq (.ops [⟨(some 21), none, (.mov (.t 4))⟩,
      ⟨(some 2), none, (.mov (.k .nsl))⟩,
      ⟨(some 3), none, (.mov (.t 21))⟩])
    .ret)
    .skip)))
  (.seq (.ops [⟨(some 22), none, (.flA 0 (.t 1))⟩,
    ⟨(some 23), none, (.ld 1 false (.t 22))⟩,
    ⟨(some 24), none, (.len false (.t 23))⟩,
    ⟨(some 6), none, (.new [(.int .i64 0)])⟩,
    ⟨(some 5), none, (.mov (.t 24))⟩,
    ⟨none, none, (.st 1 (.t 6) (.k (.int .i64 0)))⟩])
  (.seq (.ops [⟨(some 7), none, (.new [(.int .i64 0), (.int .i64 0), (.int .i64 0), (.int .i64 0), (.int .i64 0), (.int .i64 0), (.int .i64 0), (.int .i64 0), (.int .i64 0), (.int .i64 0), (.int .i64 0), (.int .i64 0), (.int .i64 0), (.int .i64 0), (.int .i64 0), (.int .i64 0), (.int .i64 0), (.int .i64 0), (.int .i64 0), (.int .i64 0), (.int .i64 0), (.int .i64 0), (.int .i64 0), (.int .i64 0), (.int .i64 0), (.int .i64 0), (.int .i64 0), (.int .i64 0), (.int .i64 0), (.int .i64 0), (.int .i64 0), (.int .i64 0), (.int .i64 0), (.int .i64 0), (.int .i64 0), (.int .i64 0), (.int .i64 0), (.int .i64 0), (.int .i64 0), (.int .i64 0), (.int .i64 0), (.int .i64 0), (.int .i64 0), (.int .i64 0), (.int .i64 0), (.int .i64 0), (.int .i64 0), (.int .i64 0), (.int .i64 0)])⟩])
  (.seq (.seq (.ops [⟨(some 25), none, (.ld 2 true (.t 1))⟩,
    ⟨(some 26), none, (.callF 82 [(.t 25)])⟩])
  (.blk 0 (.rf (.t 26) [27, 28] (.ops [⟨(some 8), none, (.mov (.t 27))⟩])
      (.blk 1 (.seq (.ops [⟨(some 29), none, (.ld 1 false (.t 6))⟩,
          ⟨(some 30), none, (.bin .add (.t 29) (.k (.int .i64 1)))⟩,
          ⟨none, none, (.st 1 (.t 6) (.t 30))⟩])
        (.seq (.ops [⟨(some 31), none, (.mov (.t 8))⟩,
          ⟨(some 32), none, (.len false (.t 31))⟩,
          ⟨(some 33), none, (.mov (.k (.int .i64 0)))⟩])
        (.blk 2 (.loop (.seq (.ops [⟨(some 34), none, (.bin .lss (.t 33) (.t 32))⟩])
            (.seq (.cnd (.t 34)
              .skip
              (.exit 2))
            (.seq (.blk 3 (.seq (.ops [⟨(some 35), none, (.mov (.t 33))⟩,
                ⟨(some 36), none, (.ixA 1 (.t 31) (.t 33))⟩,
                ⟨(some 37), none, (.ld 1 false (.t 36))⟩,
                ⟨(some 9), none, (.mov (.t 35))⟩,
                ⟨(some 10), none, (.mov (.t 37))⟩])
              (.seq (.ops [⟨(some 38), none, (.mov (.t 8))⟩,
                ⟨(some 39), none, (.mov (.t 9))⟩,
                ⟨(some 40), none, (.bin .add (.t 39) (.k (.int .i64 1)))⟩,
                ⟨(some 41), none, (.slS 1 (.t 38) (some (.t 40)) none none)⟩,
                ⟨(some 42), none, (.len false (.t 41))⟩,
                ⟨(some 43), none, (.mov (.k (.int .i64 0)))⟩])
              (.blk 4 (.loop (.seq (.ops [⟨(some 44), none, (.bin .lss (.t 43) (.t 42))⟩])
                  (.seq (.cnd (.t 44)
                    .skip
                    (.exit 4))
                  (.seq (.blk 5 (.seq (.ops [⟨(some 45), none, (.ixA 1 (.t 41) (.t 43))⟩,
                      ⟨(some 46), none, (.ld 1 false (.t 45))⟩,
                      ⟨(some 12), none, (.mov (.t 46))⟩])
                    (.ops [⟨(some 47), none, (.mov (.t 10))⟩,
                      ⟨(some 48), none, (.mov (.t 12))⟩,
                      ⟨(some 49), none, (.ixAr 7 7 (.t 7) (.t 47))⟩,
                      ⟨(some 50), none, (.ixAr 7 1 (.t 49) (.t 48))⟩,
                      ⟨(some 51), none, (.ld 1 false (.t 50))⟩,
                      ⟨(some 52), none, (.bin .add (.t 51) (.k (.int .i64 1)))⟩,
                      ⟨(some 53), none, (.ixAr 7 7 (.t 7) (.t 47))⟩,
                      ⟨(some 54), none, (.ixAr 7 1 (.t 53) (.t 48))⟩,
                      ⟨none, none, (.st 1 (.t 54) (.t 52))⟩])))
                  (.ops [⟨(some 55), none, (.bin .add (.t 43) (.k (.int .i64 1)))⟩,
                    ⟨(some 43), none, (.mov (.t 55))⟩])))))))))
            (.ops [⟨(some 56), none, (.bin .add (.t 33) (.k (.int .i64 1)))⟩,
              ⟨(some 33), none, (.mov (.t 56))⟩]))))))))))))
  (.seq (.seq (.ops [⟨(some 57), none, (.ld 1 false (.t 6))⟩,
    ⟨(some 58), none, (.bin .eql (.t 57) (.k (.int .i64 0)))⟩])
  (.cnd (.t 58)
    (.seq (.ops [⟨(some 2), none, (.mov (.k .nsl))⟩,
      ⟨(some 3), none, (.mov (.k (.int .i64 12)))⟩])
    .ret)
    .skip))
  (.seq (.ops [⟨(some 59), none, (.mov (.t 5))⟩,
    ⟨(some 60), none, (.mks 1 24 [.nsl] (.t 59) (.t 59))⟩,
    ⟨(some 13), none, (.mov (.t 60))⟩])
  (.seq (.seq (.ops [⟨(some 61), none, (.mov (.t 13))⟩,
    ⟨(some 62), none, (.len false (.t 61))⟩,
    ⟨(some 63), none, (.mov (.k (.int .i64 0)))⟩])
  (.blk 6 (.loop (.seq (.ops [⟨(some 64), none, (.bin .lss (.t 63) (.t 62))⟩])
      (.seq (.cnd (.t 64)
        .skip
        (.exit 6))
      (.seq (.blk 7 (.seq (.ops [⟨(some 65), none, (.mov (.t 63))⟩,
          ⟨(some 14), none, (.mov (.t 65))⟩])
        (.seq (.ops [⟨(some 66), none, (.mov (.t 5))⟩,
          ⟨(some 67), none, (.mov (.k (.int .i64 0)))⟩])
        (.blk 8 (.loop (.seq (.ops [⟨(some 68), none, (.bin .lss (.t 67) (.t 66))⟩])
            (.seq (.cnd (.t 68)
              .skip
              (.exit 8))
            (.seq (.blk 9 (.seq (.ops [⟨(some 69), none, (.mov (.t 67))⟩,
                ⟨(some 15), none, (.mov (.t 69))⟩])
              (.seq (.ops [⟨(some 16), none, (.mov (.k (.int .i64 3)))⟩])
              (.seq (.seq (.ops [⟨(some 70), none, (.mov (.t 14))⟩,
                ⟨(some 71), none, (.mov (.t 15))⟩,
                ⟨(some 72), none, (.ixAr 7 7 (.t 7) (.t 70))⟩,
                ⟨(some 73), none, (.ixAr 7 1 (.t 72) (.t 71))⟩,
                ⟨(some 74), none, (.ld 1 false (.t 73))⟩])
              (.blk 10 (.seq (.ops [⟨(some 76), none, (.ld 1 false (.t 6))⟩,
                  ⟨(some 77), none, (.bin .eql (.t 74) (.t 76))⟩,
                  ⟨(some 75), none, (.mov (.t 77))⟩])
                (.cnd (.t 75)
                  (.ops [⟨(some 16), none, (.mov (.k (.int .i64 1)))⟩])
                  (.seq (.ops [⟨(some 79), none, (.bin .eql (.t 74) (.k (.int .i64 0)))⟩,
                    ⟨(some 78), none, (.mov (.t 79))⟩])
                  (.cnd (.t 78)
                    (.ops [⟨(some 16), none, (.mov (.k (.int .i64 2)))⟩])
                    .skip))))))
              (.ops [⟨(some 80), none, (.mov (.t 13))⟩,
                ⟨(some 81), none, (.mov (.t 14))⟩,
                ⟨(some 82), none, (.mov (.t 13))⟩,
                ⟨(some 83), none, (.mov (.t 14))⟩,
                ⟨(some 84), none, (.ixA 1 (.t 82) (.t 83))⟩,
                ⟨(some 85), none, (.ld 1 false (.t 84))⟩,
                ⟨(some 86), none, (.mov (.t 16))⟩,
                ⟨(some 87), none, (.bsl 1 [[(.int .i64 0)]] [(0, (.t 86))])⟩,
                ⟨(some 88), none, (.app 1 8 (.t 85) (.t 87) 88)⟩,
                ⟨(some 89), none, (.ixA 1 (.t 80) (.t 81))⟩,
                ⟨none, none, (.st 1 (.t 89) (.t 88))⟩])))))
            (.ops [⟨(some 90), none, (.bin .add (.t 67) (.k (.int .i64 1)))⟩,
              ⟨(some 67), none, (.mov (.t 90))⟩])))))))))
      (.ops [⟨(some 91), none, (.bin .add (.t 63) (.k (.int .i64 1)))⟩,
        ⟨(some 63), none, (.mov (.t 91))⟩])))))))
  (.seq (.seq (.frz (.t 13))
  (.ops [⟨(some 92), none, (.mov (.t 13))⟩,
    ⟨(some 2), none, (.mov (.t 92))⟩,
    ⟨(some 3), none, (.mov (.k (.int .i64 0)))⟩]))
  .ret)))))))))⟩
def hint45 (P : Program) : Hint := { site := [], nils := [], frz := [(92, 13)], mve := [], wr := [] }

theorem setT_self (f : Nat → Nat → Int) (a b x y : Nat) (v : Int) : setT f a b v x y = if x = a ∧ y = b then v else f x y := rfl
def curV (cur : List Int) (g : Nat) : AV := match cur with
  | [] => .nsl
  | _ :: _ => .slc 1 (iR cur) (.own 88 g)
def curS (cur : List Int) (g : Nat) : List (Nat × (Nat × Res)) := match cur with
  | [] => []
  | _ :: _ => [(88, (g, .row []))]
theorem Sure_c (gs : List Guest) (rs : List Rule) (hl0 : gs.length < 1000) (hr0 : rs.length < 1000) (hs : ∀ g ∈ gs, g.name.size ≤ 1000) :
    Fn0 Try.prog 45 [pA gs rs] (fun v => v = .tup [optLL (sureP gs rs).1, .int .i64 (sureP gs rs).2]) := by
  have hck := Check_c gs rs hl0 hr0 hs
  by_cases h0 : pErr gs rs = 0
  case neg =>
    rw [show sureP gs rs = (none, pErr gs rs) by rw [sureP, if_neg h0]]
    refine RawC.walk (H := hint45 Try.prog) ir45 Try.func45 rfl rfl rfl ?_
    unfold ir45
    repeat' (first
      | with_reducible (first | refine Rd.p ?_ | refine zE ?_ | refine zE0 ?_)
      | with_reducible (first | refine zI fun y hy => ?_ | refine zL ?_ | refine zS ?_ | refine zA fun _ => ?_ | refine zV ?_ | refine zC ?_ | refine zG ?_ | refine zU ?_ | refine zG0 ?_ | refine zU0 ?_ | refine zF ?_)
      | ((with_reducible refine acall_id ?_); refine ACall.val hck rfl rfl ?_)
      | with_reducible (first | refine zX ?_ | refine zD fun _ => ?_ | refine zD0 ?_ | refine zN ?_ | refine zF0 ?_ | refine zX0 ?_ | refine z1 ?_ | refine z2 ?_ | refine z3 ?_ | refine z4 ?_ | refine z5 ?_ | refine z6 ?_ | refine z7 ?_ | refine z8 ?_ | refine y1 ?_ | refine y2 ?_ | refine y3 ?_ | refine y4 ?_ | refine y5 ?_ | refine y6 ?_ | refine y7 ?_ | refine y8 ?_ | refine Rt.p (fun _ => ?_) fun _ => ?_)
      | ((with_reducible apply w_ixM); (focus exact rfl); (focus exact rfl); case' hk => intro y hy) | ((with_reducible (first | apply w_val | apply q_ends)); (focus exact rfl)))
    rfl
  have hp := pOK_of h0
  have h7 := hp.g7
  have h1 := hp.g1
  have hol := okL_len gs rs hp.g7
  rw [h0] at hck
  have hsp : sureP gs rs = if okL gs rs = [] then (none, 12) else (some (sureR gs.length (okL gs rs)), 0) := by rw [sureP, if_pos h0]
  have hall : ∀ x ∈ allowF gs rs (perms gs.length), isPerm gs.length x.1 := fun x hx => perm_of (allowF_mem hx).1
  have hmap : (allowF gs rs (perms gs.length)).map (·.1) = okL gs rs := by rw [allowF_eq, List.map_map]; simp [Function.comp_def]
  have hlen : (allowF gs rs (perms gs.length)).length = (okL gs rs).length := by rw [← hmap, List.length_map]
  refine RawC.walk (H := hint45 Try.prog) ir45 Try.func45 rfl rfl rfl ?_
  unfold ir45
  repeat' (first
    | with_reducible (first | refine Rd.p ?_ | refine zE ?_ | refine zE0 ?_)
    | with_reducible (first | refine zI fun y hy => ?_ | refine zL ?_ | refine zS ?_ | refine zA fun _ => ?_ | refine zV ?_ | refine zC ?_ | refine zG ?_ | refine zU ?_ | refine zG0 ?_ | refine zU0 ?_ | refine zF ?_)
    | ((with_reducible refine acall_id ?_); refine ACall.val hck rfl rfl ?_)
    | ((with_reducible refine acall_id ?_); refine ACall.val (allowed_c gs rs) rfl rfl ?_)
    | with_reducible (first | refine zX ?_ | refine zD fun _ => ?_ | refine zD0 ?_ | refine zN ?_ | refine zF0 ?_ | refine zX0 ?_ | refine z1 ?_ | refine z2 ?_ | refine z3 ?_ | refine z4 ?_ | refine z5 ?_ | refine z6 ?_ | refine z7 ?_ | refine z8 ?_ | refine y1 ?_ | refine y2 ?_ | refine y3 ?_ | refine y4 ?_ | refine y5 ?_ | refine y6 ?_ | refine y7 ?_ | refine y8 ?_ | refine Rt.p (fun _ => ?_) fun _ => ?_)
    | ((with_reducible apply w_ixM); (focus exact rfl); (focus exact rfl); case' hk => intro y hy) | ((with_reducible (first | apply w_val | apply q_ends)); (focus exact rfl)))
  rename_i g1 g6 g7
  refine w_rfM enc2 (allowF gs rs (perms gs.length)) rfl (allowed_it gs rs (by omega) hp.g1 hp.r hp.r12) (fun _ => rfl) [1]
    (fun (rest : List (List Int × Nat)) (y : (Nat → Nat → Int) × Nat) => y.2 + rest.length = (okL gs rs).length ∧ (∀ x z, y.1 x z + bfS (rest.map (·.1)) x z = bfS (okL gs rs) x z) ∧ (∀ x z, 0 ≤ y.1 x z ∧ y.1 x z ≤ 7 * y.2) ∧ ∀ r ∈ rest, isPerm gs.length r.1)
    (fun y => [(6, (g6, .row [.int .i64 y.2])), (7, (g7, .row ((tabI y.1).map (AV.int .i64))))]) (fun _ _ => 0, 0) ?_ ⟨rfl, rfl, trivial⟩ ?_ ?_
  · refine ⟨by dsimp only; omega, fun x z => ?_, fun x z => by simp, hall⟩
    rw [hmap]; simp
  · rintro ⟨l, b⟩ rest ⟨f, n⟩ ⟨hn, hf, hfb, hpm⟩ σ'
    dsimp only at hn hf hfb ⊢
    have hpl : isPerm gs.length l := hpm (l, b) (by simp)
    have hll := hpl.len
    simp only [List.length_cons] at hn
    repeat' (first
      | with_reducible (first | refine Rd.p ?_ | refine zE ?_ | refine zE0 ?_)
      | with_reducible (first | refine zI fun y hy => ?_ | refine zL ?_ | refine zS ?_ | refine zA fun _ => ?_ | refine zV ?_ | refine zC ?_ | refine zG ?_ | refine zU ?_ | refine zG0 ?_ | refine zU0 ?_ | refine zF ?_)
      | with_reducible (first | refine zX ?_ | refine zD fun _ => ?_ | refine zD0 ?_ | refine zN ?_ | refine zF0 ?_ | refine zX0 ?_ | refine z1 ?_ | refine z2 ?_ | refine z3 ?_ | refine z4 ?_ | refine z5 ?_ | refine z6 ?_ | refine z7 ?_ | refine z8 ?_ | refine y1 ?_ | refine y2 ?_ | refine y3 ?_ | refine y4 ?_ | refine y5 ?_ | refine y6 ?_ | refine y7 ?_ | refine y8 ?_ | refine Rt.p (fun _ => ?_) fun _ => ?_)
      | ((with_reducible apply w_ixM); (focus exact rfl); (focus exact rfl); case' hk => intro y hy) | ((with_reducible (first | apply w_val | apply q_ends)); (focus exact rfl)))
    refine w_loopK [5, 6, 7, 8, 31, 32] [1, 6] (fun x : List Int × List Int × (Nat → Nat → Int) => l = x.1 ++ x.2.1 ∧ (∀ a z, x.2.2 a z + bf x.2.1 a z = f a z + bf l a z) ∧ ∀ a z, 0 ≤ x.2.2 a z) (fun x => x.2.1.length) (fun x => [(33, .int .i64 x.1.length)])
      (fun x => [(7, (g7, .row ((tabI x.2.2).map (AV.int .i64))))]) ([], l, f) ⟨rfl, fun _ _ => rfl, fun a z => (hfb a z).1⟩ ⟨rfl, trivial⟩ ⟨rfl, trivial⟩ ?_
    rintro ⟨pre, post, f1⟩ ⟨hl, hf1, hf0⟩ e1 σ1
    dsimp only at hl hf1 hf0 ⊢
    have hlen1 := congrArg List.length hl
    have hub : ∀ a z, f1 a z ≤ 6000000 := fun a z => by
      have := hf1 a z
      have := (hfb a z).2
      have := bf_bd l a z
      have := bf_bd post a z
      omega
    cases post with
    | nil =>
      simp only [List.append_nil, List.length_append, List.length_nil] at hlen1
      repeat' (first
        | with_reducible (first | refine Rd.p ?_ | refine zE ?_ | refine zE0 ?_)
        | with_reducible (first | refine zI fun y hy => ?_ | refine zL ?_ | refine zS ?_ | refine zA fun _ => ?_ | refine zV ?_ | refine zC ?_ | refine zG ?_ | refine zU ?_ | refine zG0 ?_ | refine zU0 ?_ | refine zF ?_)
        | with_reducible (first | refine zX ?_ | refine zD fun _ => ?_ | refine zD0 ?_ | refine zN ?_ | refine zF0 ?_ | refine zX0 ?_ | refine z1 ?_ | refine z2 ?_ | refine z3 ?_ | refine z4 ?_ | refine z5 ?_ | refine z6 ?_ | refine z7 ?_ | refine z8 ?_ | refine y1 ?_ | refine y2 ?_ | refine y3 ?_ | refine y4 ?_ | refine y5 ?_ | refine y6 ?_ | refine y7 ?_ | refine y8 ?_ | refine Rt.p (fun _ => ?_) fun _ => ?_)
        | ((with_reducible apply w_ixM); (focus exact rfl); (focus exact rfl); case' hk => intro y hy) | ((with_reducible (first | apply w_val | apply q_ends)); (focus exact rfl)))
      refine q_rnd (f1, n + 1) ⟨by dsimp only; omega, fun x z => ?_, fun x z => ?_, fun r hr => hpm r (by simp [hr])⟩ (by repeat' (first | exact slots_nil | apply slots_cons | rfl | (rw [map_snoc]; rfl) | (rw [len_snoc]; rfl) | (rw [hS]; rfl) | (rw [hS, map_snoc]; rfl) | (refine int_eq ?_; (try dsimp only); omega) | (refine congrArg AV.bool ?_; simp_all; done))) (by repeat' (first | exact kept_nil | apply kept_cons | rfl))
      · have h2 := hf x z
        have h3 := hf1 x z
        rw [List.map_cons, bfS_cons] at h2
        simp only [bf] at h3
        dsimp only at h2 ⊢
        omega
      · have h3 := hf1 x z
        have := hfb x z
        have := bf_bd l x z
        simp only [bf] at h3
        exact ⟨hf0 x z, by dsimp only; omega⟩
    | cons a post =>
      simp only [List.length_append, List.length_cons] at hlen1
      have ha := hpl.bd a (by rw [hl]; simp)
      have hnd : (a :: post).Nodup := (List.nodup_append.1 (hl ▸ hpl.nd)).2.1
      have hnp := (List.nodup_cons.1 hnd).2
      have hab := (List.nodup_cons.1 hnd).1
      have ht : (l.drop ((pre.length : Int) + 1).toNat).take ((l.length : Int) - ((pre.length : Int) + 1)).toNat = post := by
        have e2 : ((pre.length : Int) + 1).toNat = pre.length + 1 := by omega
        have e3 : ((l.length : Int) - ((pre.length : Int) + 1)).toNat = post.length := by omega
        rw [e2, e3, hl]
        rw [show pre ++ a :: post = (pre ++ [a]) ++ post by simp, List.drop_left' (by simp), List.take_length]
      have htl := congrArg List.length ht
      repeat' (first
        | with_reducible (first | refine Rd.p ?_ | refine zE ?_ | refine zE0 ?_)
        | (refine w_ixP hl rfl rfl ?_)
        | with_reducible (first | refine zI fun y hy => ?_ | refine zL ?_ | refine zS ?_ | refine zA fun _ => ?_ | refine zV ?_ | refine zC ?_ | refine zG ?_ | refine zU ?_ | refine zG0 ?_ | refine zU0 ?_ | refine zF ?_)
        | with_reducible (first | refine zX ?_ | refine zD fun _ => ?_ | refine zD0 ?_ | refine zN ?_ | refine zF0 ?_ | refine zX0 ?_ | refine z1 ?_ | refine z2 ?_ | refine z3 ?_ | refine z4 ?_ | refine z5 ?_ | refine z6 ?_ | refine z7 ?_ | refine z8 ?_ | refine y1 ?_ | refine y2 ?_ | refine y3 ?_ | refine y4 ?_ | refine y5 ?_ | refine y6 ?_ | refine y7 ?_ | refine y8 ?_ | refine Rt.p (fun _ => ?_) fun _ => ?_)
        | ((with_reducible apply w_ixM); (focus exact rfl); (focus exact rfl); case' hk => intro y hy) | ((with_reducible (first | apply w_val | apply q_ends)); (focus exact rfl)))
      refine w_loopK [5, 6, 7, 8, 10, 31, 32, 33, 41, 42] [1, 6] (fun x : List Int × List Int × (Nat → Nat → Int) => post = x.1 ++ x.2.1 ∧ (∀ c z, x.2.2 c z + (if a = (c : Int) then inN x.2.1 z else 0) = f1 c z + (if a = (c : Int) then inN post z else 0)) ∧ ∀ c z, 0 ≤ x.2.2 c z) (fun x => x.2.1.length) (fun x => [(43, .int .i64 x.1.length)])
        (fun x => [(7, (g7, .row ((tabI x.2.2).map (AV.int .i64))))]) ([], post, f1) ⟨rfl, fun _ _ => rfl, hf0⟩ ⟨rfl, trivial⟩ ⟨rfl, trivial⟩ ?_
      rintro ⟨seen, u, h⟩ ⟨hu, hh, hh0⟩ e2 σ2
      dsimp only at hu hh hh0 ⊢
      have hlen2 := congrArg List.length hu
      cases u with
      | nil =>
        simp only [List.append_nil, List.length_append, List.length_nil] at hlen2
        repeat' (first
          | with_reducible (first | refine Rd.p ?_ | refine zE ?_ | refine zE0 ?_)
          | with_reducible (first | refine zI fun y hy => ?_ | refine zL ?_ | refine zS ?_ | refine zA fun _ => ?_ | refine zV ?_ | refine zC ?_ | refine zG ?_ | refine zU ?_ | refine zG0 ?_ | refine zU0 ?_ | refine zF ?_)
          | with_reducible (first | refine zX ?_ | refine zD fun _ => ?_ | refine zD0 ?_ | refine zN ?_ | refine zF0 ?_ | refine zX0 ?_ | refine z1 ?_ | refine z2 ?_ | refine z3 ?_ | refine z4 ?_ | refine z5 ?_ | refine z6 ?_ | refine z7 ?_ | refine z8 ?_ | refine y1 ?_ | refine y2 ?_ | refine y3 ?_ | refine y4 ?_ | refine y5 ?_ | refine y6 ?_ | refine y7 ?_ | refine y8 ?_ | refine Rt.p (fun _ => ?_) fun _ => ?_)
          | ((with_reducible apply w_ixM); (focus exact rfl); (focus exact rfl); case' hk => intro y hy) | ((with_reducible (first | apply w_val | apply q_ends)); (focus exact rfl)))
        refine zQ (pre ++ [a], post, h) ?_ ?_
        · refine ⟨by rw [hl]; simp, fun c z => ?_, hh0⟩
          have h2 := hf1 c z
          have h3 := hh c z
          simp only [bf] at h2
          have h4 : inN [] z = 0 := by simp [inN]
          rw [h4] at h3
          dsimp only
          split at h3 <;> split at h2 <;> first | omega | contradiction
        · simp
      | cons b1 u =>
        simp only [List.length_append, List.length_cons] at hlen2
        have hb1 := hpl.bd b1 (by rw [hl, hu]; simp)
        have hbu : b1 ∉ u := (List.nodup_cons.1 (List.nodup_append.1 (hu ▸ hnp)).2.1).1
        have hub2 := hub a.toNat b1.toNat
        have hh2 := hh a.toNat b1.toNat
        have hin := inN_bd post b1.toNat
        have hin2 := inN_bd (b1 :: u) b1.toNat
        have hh3 := hh0 a.toNat b1.toNat
        have hub3 : h a.toNat b1.toNat ≤ 6000001 := by
          split at hh2 <;> omega
        repeat' (first
          | with_reducible (first | refine Rd.p ?_ | refine zE ?_ | refine zE0 ?_)
          | (first | refine w_ixP (ht.trans hu) rfl rfl ?_ | refine w_ldT rfl rfl (by omega) (by omega) ?_ | refine w_stT rfl rfl rfl (by omega) (by omega) ?_)
          | with_reducible (first | refine zI fun y hy => ?_ | refine zL ?_ | refine zS ?_ | refine zA fun _ => ?_ | refine zV ?_ | refine zC ?_ | refine zG ?_ | refine zU ?_ | refine zG0 ?_ | refine zU0 ?_ | refine zF ?_)
          | with_reducible (first | refine zX ?_ | refine zD fun _ => ?_ | refine zD0 ?_ | refine zN ?_ | refine zF0 ?_ | refine zX0 ?_ | refine z1 ?_ | refine z2 ?_ | refine z3 ?_ | refine z4 ?_ | refine z5 ?_ | refine z6 ?_ | refine z7 ?_ | refine z8 ?_ | refine y1 ?_ | refine y2 ?_ | refine y3 ?_ | refine y4 ?_ | refine y5 ?_ | refine y6 ?_ | refine y7 ?_ | refine y8 ?_ | refine Rt.p (fun _ => ?_) fun _ => ?_)
          | ((with_reducible apply w_ixM); (focus exact rfl); (focus exact rfl); case' hk => intro y hy) | ((with_reducible (first | apply w_val | apply q_ends)); (focus exact rfl)))
        refine zQ (seen ++ [b1], u, setT h a.toNat b1.toNat (h a.toNat b1.toNat + 1)) ?_ ?_
        · refine ⟨by rw [hu]; simp, fun c z => ?_, fun c z => ?_⟩
          · have h2 := hh c z
            dsimp only
            rw [setT_self]
            have h4 : inN (b1 :: u) z = (if b1 = (z : Int) then 1 else 0) + inN u z := by
              unfold inN
              by_cases e3 : b1 = (z : Int)
              · rw [if_pos (by simp [e3]), if_pos e3, if_neg (e3 ▸ hbu)]; rfl
              · rw [if_neg e3]
                by_cases e4 : (z : Int) ∈ u
                · rw [if_pos (by simp [e4]), if_pos e4]; rfl
                · rw [if_neg (by simp [e4]; exact fun h => e3 h.symm), if_neg e4]; rfl
            rw [h4] at h2
            by_cases e5 : a = (c : Int)
            · rw [if_pos e5] at h2 ⊢
              rw [if_pos e5] at h2
              rw [if_pos e5]
              by_cases e6 : b1 = (z : Int)
              · rw [if_pos e6] at h2
                have ec : c = a.toNat := by omega
                have ez : z = b1.toNat := by omega
                rw [if_pos ⟨ec, ez⟩]
                subst ec; subst ez
                omega
              · rw [if_neg e6] at h2
                rw [if_neg (fun h => e6 (by omega))]
                omega
            · rw [if_neg e5] at h2 ⊢
              rw [if_neg e5] at h2
              rw [if_neg e5, if_neg (fun h => e5 (by omega))]
              omega
          · dsimp only
            rw [setT_self]
            have := hh0 c z
            split <;> omega
        · simp
  · rintro ⟨f, n⟩ ⟨hn, hf, hfb, _⟩ σ'
    dsimp only at hn hf hfb ⊢
    simp only [List.length_nil] at hn
    have hf2 : ∀ x z, f x z = bfS (okL gs rs) x z := fun x z => by have := hf x z; simp [bfS] at this ⊢; omega
    by_cases he : okL gs rs = []
    · rw [he] at hn
      have hn0 : n = 0 := by simp at hn; exact hn
      subst hn0
      rw [hsp, if_pos he]
      repeat' (first
        | with_reducible (first | refine Rd.p ?_ | refine zE ?_ | refine zE0 ?_)
        | with_reducible (first | refine zI fun y hy => ?_ | refine zL ?_ | refine zS ?_ | refine zA fun _ => ?_ | refine zV ?_ | refine zC ?_ | refine zG ?_ | refine zU ?_ | refine zG0 ?_ | refine zU0 ?_ | refine zF ?_)
        | with_reducible (first | refine zX ?_ | refine zD fun _ => ?_ | refine zD0 ?_ | refine zN ?_ | refine zF0 ?_ | refine zX0 ?_ | refine z1 ?_ | refine z2 ?_ | refine z3 ?_ | refine z4 ?_ | refine z5 ?_ | refine z6 ?_ | refine z7 ?_ | refine z8 ?_ | refine y1 ?_ | refine y2 ?_ | refine y3 ?_ | refine y4 ?_ | refine y5 ?_ | refine y6 ?_ | refine y7 ?_ | refine y8 ?_ | refine Rt.p (fun _ => ?_) fun _ => ?_)
        | ((with_reducible apply w_ixM); (focus exact rfl); (focus exact rfl); case' hk => intro y hy) | ((with_reducible (first | apply w_val | apply q_ends)); (focus exact rfl)))
      rfl
    have hpos : 0 < (okL gs rs).length := List.length_pos_iff.2 he
    rw [hsp, if_neg he]
    have hN : n = (okL gs rs).length := by omega
    repeat' (first
      | with_reducible (first | refine Rd.p ?_ | refine zE ?_ | refine zE0 ?_)
      | (refine w_mksL rfl (by omega) ?_; intro g60)
      | with_reducible (first | refine zI fun y hy => ?_ | refine zL ?_ | refine zS ?_ | refine zA fun _ => ?_ | refine zV ?_ | refine zC ?_ | refine zG ?_ | refine zU ?_ | refine zG0 ?_ | refine zU0 ?_ | refine zF ?_)
      | with_reducible (first | refine zX ?_ | refine zD fun _ => ?_ | refine zD0 ?_ | refine zN ?_ | refine zF0 ?_ | refine zX0 ?_ | refine z1 ?_ | refine z2 ?_ | refine z3 ?_ | refine z4 ?_ | refine z5 ?_ | refine z6 ?_ | refine z7 ?_ | refine z8 ?_ | refine y1 ?_ | refine y2 ?_ | refine y3 ?_ | refine y4 ?_ | refine y5 ?_ | refine y6 ?_ | refine y7 ?_ | refine y8 ?_ | refine Rt.p (fun _ => ?_) fun _ => ?_)
      | ((with_reducible apply w_ixM); (focus exact rfl); (focus exact rfl); case' hk => intro y hy) | ((with_reducible (first | apply w_val | apply q_ends)); (focus exact rfl)))
    refine w_loopK [5, 6, 7, 13, 62] [1, 6, 7] (fun x : List (List Int × Nat) => x.length ≤ gs.length ∧ x.map (·.1) = (List.range x.length).map fun a => (List.range gs.length).map fun b => vdI (bfS (okL gs rs) a b) n) (fun x => gs.length - x.length) (fun x => [(63, .int .i64 x.length)])
      (fun x => [(60, (g60, .row (x.map ownC ++ List.replicate (gs.length - x.length) AV.nsl)))]) [] ⟨by simp, rfl⟩ ⟨rfl, trivial⟩ ⟨rfl, trivial⟩ ?_
    rintro done ⟨hd1, hd2⟩ e1 σ1
    dsimp only at hd1 hd2 ⊢
    by_cases hlt : done.length < gs.length
    case neg =>
      have hfin : done.map ownC ++ List.replicate (gs.length - done.length) AV.nsl = done.map ownC := by
        rw [show gs.length - done.length = 0 by omega]; simp
      repeat' (first
        | with_reducible (first | refine Rd.p ?_ | refine zE ?_ | refine zE0 ?_)
        | with_reducible (first | refine zI fun y hy => ?_ | refine zL ?_ | refine zS ?_ | refine zA fun _ => ?_ | refine zV ?_ | refine zC ?_ | refine zG ?_ | refine zU ?_ | refine zG0 ?_ | refine zU0 ?_ | refine zF ?_)
        | (refine w_frzL (xs := done) rfl (show _ from congrArg (fun c => ((g60, Res.row c) : Nat × Res)) hfin) (by omega) ?_)
        | with_reducible (first | refine zX ?_ | refine zD fun _ => ?_ | refine zD0 ?_ | refine zN ?_ | refine zF0 ?_ | refine zX0 ?_ | refine z1 ?_ | refine z2 ?_ | refine z3 ?_ | refine z4 ?_ | refine z5 ?_ | refine z6 ?_ | refine z7 ?_ | refine z8 ?_ | refine y1 ?_ | refine y2 ?_ | refine y3 ?_ | refine y4 ?_ | refine y5 ?_ | refine y6 ?_ | refine y7 ?_ | refine y8 ?_ | refine Rt.p (fun _ => ?_) fun _ => ?_)
        | ((with_reducible apply w_ixM); (focus exact rfl); (focus exact rfl); case' hk => intro y hy) | ((with_reducible (first | apply w_val | apply q_ends)); (focus exact rfl)))
      rw [hd2, show done.length = gs.length by omega, hN]; rfl
    have hrep : List.replicate (gs.length - done.length) AV.nsl = AV.nsl :: List.replicate (gs.length - done.length - 1) AV.nsl := by
      rw [show gs.length - done.length = (gs.length - done.length - 1) + 1 by omega, List.replicate_succ]; simp
    have hdl : (done.map ownC).length = done.length := by simp
    repeat' (first
      | with_reducible (first | refine Rd.p ?_ | refine zE ?_ | refine zE0 ?_)
      | with_reducible (first | refine zI fun y hy => ?_ | refine zL ?_ | refine zS ?_ | refine zA fun _ => ?_ | refine zV ?_ | refine zC ?_ | refine zG ?_ | refine zU ?_ | refine zG0 ?_ | refine zU0 ?_ | refine zF ?_)
      | with_reducible (first | refine zX ?_ | refine zD fun _ => ?_ | refine zD0 ?_ | refine zN ?_ | refine zF0 ?_ | refine zX0 ?_ | refine z1 ?_ | refine z2 ?_ | refine z3 ?_ | refine z4 ?_ | refine z5 ?_ | refine z6 ?_ | refine z7 ?_ | refine z8 ?_ | refine y1 ?_ | refine y2 ?_ | refine y3 ?_ | refine y4 ?_ | refine y5 ?_ | refine y6 ?_ | refine y7 ?_ | refine y8 ?_ | refine Rt.p (fun _ => ?_) fun _ => ?_)
      | ((with_reducible apply w_ixM); (focus exact rfl); (focus exact rfl); case' hk => intro y hy) | ((with_reducible (first | apply w_val | apply q_ends)); (focus exact rfl)))
    refine w_loopK [5, 6, 7, 13, 14, 62, 63, 66] [1, 6, 7] (fun x : Nat × List Int × Nat => x.1 ≤ gs.length ∧ x.2.1 = (List.range x.1).map fun b => vdI (bfS (okL gs rs) done.length b) n) (fun x => gs.length - x.1) (fun x => [(67, .int .i64 x.1)])
      (fun x => [(60, (g60, .row (done.map ownC ++ curV x.2.1 x.2.2 :: List.replicate (gs.length - done.length - 1) AV.nsl)))] ++ curS x.2.1 x.2.2) (0, [], 0) ⟨Nat.zero_le _, rfl⟩ ⟨rfl, trivial⟩ (by exact ⟨congrArg (fun c => ((g60, Res.row (done.map ownC ++ c)) : Nat × Res)) hrep, trivial⟩) ?_
    rintro ⟨b, cur, g88⟩ ⟨hb, hc⟩ e2 σ2
    dsimp only at hb hc ⊢
    have hcl : cur.length = b := by rw [hc]; simp
    by_cases hb2 : b < gs.length
    case neg =>
      have hb3 : b = gs.length := by omega
      cases cur with
      | nil => exfalso; simp at hcl; omega
      | cons c0 cur =>
        have hnx : done.map ownC ++ curV (c0 :: cur) g88 :: List.replicate (gs.length - done.length - 1) AV.nsl = (done ++ [(c0 :: cur, g88)]).map ownC ++ List.replicate (gs.length - (done ++ [(c0 :: cur, g88)]).length) AV.nsl := by
          rw [List.map_append, List.length_append, List.append_assoc]; rfl
        repeat' (first
          | with_reducible (first | refine Rd.p ?_ | refine zE ?_ | refine zE0 ?_)
          | with_reducible (first | refine zI fun y hy => ?_ | refine zL ?_ | refine zS ?_ | refine zA fun _ => ?_ | refine zV ?_ | refine zC ?_ | refine zG ?_ | refine zU ?_ | refine zG0 ?_ | refine zU0 ?_ | refine zF ?_)
          | with_reducible (first | refine zX ?_ | refine zD fun _ => ?_ | refine zD0 ?_ | refine zN ?_ | refine zF0 ?_ | refine zX0 ?_ | refine z1 ?_ | refine z2 ?_ | refine z3 ?_ | refine z4 ?_ | refine z5 ?_ | refine z6 ?_ | refine z7 ?_ | refine z8 ?_ | refine y1 ?_ | refine y2 ?_ | refine y3 ?_ | refine y4 ?_ | refine y5 ?_ | refine y6 ?_ | refine y7 ?_ | refine y8 ?_ | refine Rt.p (fun _ => ?_) fun _ => ?_)
          | ((with_reducible apply w_ixM); (focus exact rfl); (focus exact rfl); case' hk => intro y hy) | ((with_reducible (first | apply w_val | apply q_ends)); (focus exact rfl)))
        refine q_loop (done ++ [(c0 :: cur, g88)]) ?_ ?_ (by repeat' (first | exact slots_nil | apply slots_cons | rfl | (rw [map_snoc]; rfl) | (rw [len_snoc]; rfl) | (rw [hS]; rfl) | (rw [hS, map_snoc]; rfl) | (refine int_eq ?_; (try dsimp only); omega) | (refine congrArg AV.bool ?_; simp_all; done))) (by exact ⟨congrArg (fun c => ((g60, Res.row c) : Nat × Res)) hnx, trivial⟩) (by repeat' (first | exact kept_nil | apply kept_cons | rfl)) (by repeat' (first | exact kept_nil | apply kept_cons | rfl))
        · refine ⟨by simp; omega, ?_⟩
          rw [List.map_append, hd2, List.length_append, List.length_singleton, List.range_succ, List.map_append]
          simp only [List.map_cons, List.map_nil]
          rw [hc, hb3]
        · simp; omega
    have hfv : f ((done.length : Nat) : Int).toNat ((b : Nat) : Int).toNat = bfS (okL gs rs) done.length b := hf2 _ _
    have hcn : ∀ v : Int, v = vdI (f ((done.length : Nat) : Int).toNat ((b : Nat) : Int).toNat) n → cur ++ [v] = (List.range (b + 1)).map fun b => vdI (bfS (okL gs rs) done.length b) n := by
      intro v hv
      rw [List.range_succ, List.map_append, ← hc, hv, hfv]; rfl
    cases cur with
    | nil =>
      repeat' (first
        | with_reducible (first | refine Rd.p ?_ | refine zE ?_ | refine zE0 ?_)
        | (first | refine w_ldT rfl rfl (by omega) (by omega) ?_ | refine w_ldC rfl rfl (by rw [hdl]; omega) rfl ?_ | refine w_stC rfl rfl (by rw [hdl]; omega) rfl ?_)
        | with_reducible (first | refine zI fun y hy => ?_ | refine zL ?_ | refine zS ?_ | refine zA fun _ => ?_ | refine zV ?_ | refine zC ?_ | refine zG ?_ | refine zU ?_ | refine zG0 ?_ | refine zU0 ?_ | refine zF ?_)
        | with_reducible (first | refine zX ?_ | refine zD fun _ => ?_ | refine zD0 ?_ | refine zN ?_ | refine zF0 ?_ | refine zX0 ?_ | refine z1 ?_ | refine z2 ?_ | refine z3 ?_ | refine z4 ?_ | refine z5 ?_ | refine z6 ?_ | refine z7 ?_ | refine z8 ?_ | refine y1 ?_ | refine y2 ?_ | refine y3 ?_ | refine y4 ?_ | refine y5 ?_ | refine y6 ?_ | refine y7 ?_ | refine y8 ?_ | refine Rt.p (fun _ => ?_) fun _ => ?_)
        | ((with_reducible apply w_ixM); (focus exact rfl); (focus exact rfl); case' hk => intro y hy) | ((with_reducible (first | apply w_val | apply q_ends)); (focus exact rfl)))
      all_goals
        refine q_loop (b + 1, [_], _) ?_ ?_ (by repeat' (first | exact slots_nil | apply slots_cons | rfl | (rw [map_snoc]; rfl) | (rw [len_snoc]; rfl) | (rw [hS]; rfl) | (rw [hS, map_snoc]; rfl) | (refine int_eq ?_; (try dsimp only); omega) | (refine congrArg AV.bool ?_; simp_all; done))) (by repeat' (first | exact slots_nil | apply slots_cons | rfl | (rw [map_snoc]; rfl) | (rw [len_snoc]; rfl) | (rw [hS]; rfl) | (rw [hS, map_snoc]; rfl) | (refine int_eq ?_; (try dsimp only); omega) | (refine congrArg AV.bool ?_; simp_all; done))) (by repeat' (first | exact kept_nil | apply kept_cons | rfl)) (by repeat' (first | exact kept_nil | apply kept_cons | rfl))
        · exact ⟨by dsimp only; omega, hcn _ (by unfold vdI; first | rw [if_pos (by assumption)] | rw [if_neg (by assumption), if_pos (by assumption)] | rw [if_neg (by assumption), if_neg (by assumption)])⟩
        · dsimp only; omega
    | cons c0 cur =>
      repeat' (first
        | with_reducible (first | refine Rd.p ?_ | refine zE ?_ | refine zE0 ?_)
        | (first | refine w_ldT rfl rfl (by omega) (by omega) ?_ | refine w_ldC rfl rfl (by rw [hdl]; omega) rfl ?_ | refine w_stC rfl rfl (by rw [hdl]; omega) rfl ?_)
        | with_reducible (first | refine zI fun y hy => ?_ | refine zL ?_ | refine zS ?_ | refine zA fun _ => ?_ | refine zV ?_ | refine zC ?_ | refine zG ?_ | refine zU ?_ | refine zG0 ?_ | refine zU0 ?_ | refine zF ?_)
        | with_reducible (first | refine zX ?_ | refine zD fun _ => ?_ | refine zD0 ?_ | refine zN ?_ | refine zF0 ?_ | refine zX0 ?_ | refine z1 ?_ | refine z2 ?_ | refine z3 ?_ | refine z4 ?_ | refine z5 ?_ | refine z6 ?_ | refine z7 ?_ | refine z8 ?_ | refine y1 ?_ | refine y2 ?_ | refine y3 ?_ | refine y4 ?_ | refine y5 ?_ | refine y6 ?_ | refine y7 ?_ | refine y8 ?_ | refine Rt.p (fun _ => ?_) fun _ => ?_)
        | ((with_reducible apply w_ixM); (focus exact rfl); (focus exact rfl); case' hk => intro y hy) | ((with_reducible (first | apply w_val | apply q_ends)); (focus exact rfl)))
      all_goals
        refine q_loop (b + 1, c0 :: cur ++ [_], _) ?_ ?_ (by repeat' (first | exact slots_nil | apply slots_cons | rfl | (rw [map_snoc]; rfl) | (rw [len_snoc]; rfl) | (rw [hS]; rfl) | (rw [hS, map_snoc]; rfl) | (refine int_eq ?_; (try dsimp only); omega) | (refine congrArg AV.bool ?_; simp_all; done))) (by repeat' (first | exact slots_nil | apply slots_cons | rfl | (rw [map_snoc]; rfl) | (rw [len_snoc]; rfl) | (rw [hS]; rfl) | (rw [hS, map_snoc]; rfl) | (refine int_eq ?_; (try dsimp only); omega) | (refine congrArg AV.bool ?_; simp_all; done))) (by repeat' (first | exact kept_nil | apply kept_cons | rfl)) (by repeat' (first | exact kept_nil | apply kept_cons | rfl))
        · exact ⟨by dsimp only; omega, hcn _ (by unfold vdI; first | rw [if_pos (by assumption)] | rw [if_neg (by assumption), if_pos (by assumption)] | rw [if_neg (by assumption), if_neg (by assumption)])⟩
        · dsimp only; omega
end Go.Abs
