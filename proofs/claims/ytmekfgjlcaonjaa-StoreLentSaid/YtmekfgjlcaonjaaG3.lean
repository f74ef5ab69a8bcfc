/- A part of the proofs of the laws of this seat: contracts of the functions that they reach, each proved of the program's form in Lean. No condition beyond those that each contract names. -/
import Derived.Test.YtmekfgjlcaonjaaG2
import Derived.Test.YtmekfgjlcaonjaaG1
import Derived.Test.YtmekfgjlcaonjaaC11
import Derived.Test.YtmekfgjlcaonjaaC14
import Derived.Test.YtmekfgjlcaonjaaC5
import Derived.Test.YtmekfgjlcaonjaaC4
import Derived.Test.YtmekfgjlcaonjaaC3
import Derived.Test.YtmekfgjlcaonjaaC2
import Derived.Test.YtmekfgjlcaonjaaC1
import Derived.Test.YtmekfgjlcaonjaaB
set_option linter.unusedVariables false
set_option linter.unusedSimpArgs false
set_option maxRecDepth 20000
set_option maxHeartbeats 4000000
namespace Go.Abs
open Go.Proofs
/-- aloeswood/store.Lend -/
def ir67 : IFn :=
  ⟨86, [(2, none), (3, none), (4, none)], (.seq (.ops [⟨(some 2), none, (.mov (.k .nsl))⟩,
    ⟨(some 3), none, (.mov (.k (.int .i64 0)))⟩,
    ⟨(some 4), none, (.mov (.k (.int .i64 0)))⟩])
  (.seq (.seq (.ops [⟨(some 16), none, (.mov (.t 0))⟩,
    ⟨(some 17), none, (.len false (.t 16))⟩,
    ⟨(some 18), none, (.bin .gtr (.t 17) (.k (.int .i64 12)))⟩])
  (.cnd (.t 18)
    (.seq (.ops [⟨(some 2), none, (.mov (.k .nsl))⟩,
      ⟨(some 3), none, (.mov (.k (.int .i64 0)))⟩,
      ⟨(some 4), none, (.mov (.k (.int .i64 8)))⟩])
    .ret)
    .skip))
  (.seq (.seq (.ops [⟨(some 19), none, (.mov (.t 0))⟩,
    ⟨(some 20), none, (.len false (.t 19))⟩,
    ⟨(some 21), none, (.mov (.k (.int .i64 0)))⟩])
  (.blk 0 (.loop (.seq (.ops [⟨(some 22), none, (.bin .lss (.t 21) (.t 20))⟩])
      (.seq (.cnd (.t 22)
        .skip
        (.exit 0))
      (.seq (.blk 1 (.seq (.ops [⟨(some 23), none, (.ixA 4 (.t 19) (.t 21))⟩,
          ⟨(some 24), none, (.ld 4 true (.t 23))⟩,
          ⟨(some 6), none, (.new [(.int .i64 0), (.int .i64 0), (.int .i64 0), (.int .i64 0)])⟩,
          ⟨none, none, (.st 4 (.t 6) (.t 24))⟩])
        (.seq (.ops [⟨(some 25), none, (.ld 4 true (.t 6))⟩,
          ⟨(some 26), none, (.callF 108 [(.t 25)])⟩,
          ⟨(some 7), none, (.mov (.t 26))⟩])
        (.seq (.ops [⟨(some 27), none, (.mov (.t 7))⟩,
          ⟨(some 28), none, (.bin .neq (.t 27) (.k (.int .i64 0)))⟩])
        (.cnd (.t 28)
          (.seq (.ops [⟨(some 29), none, (.mov (.t 7))⟩,
            ⟨(some 2), none, (.mov (.k .nsl))⟩,
            ⟨(some 3), none, (.mov (.k (.int .i64 0)))⟩,
            ⟨(some 4), none, (.mov (.t 29))⟩])
          .ret)
          .skip)))))
      (.ops [⟨(some 30), none, (.bin .add (.t 21) (.k (.int .i64 1)))⟩,
        ⟨(some 21), none, (.mov (.t 30))⟩])))))))
  (.seq .skip
  (.seq (.seq (.ops [⟨(some 31), none, (.mov (.t 0))⟩,
    ⟨(some 32), none, (.len false (.t 31))⟩,
    ⟨(some 33), none, (.bin .shl (.k (.int .i64 1)) (.t 32))⟩,
    ⟨(some 34), none, (.mov (.k (.int .i64 0)))⟩])
  (.blk 2 (.loop (.seq (.ops [⟨(some 35), none, (.bin .lss (.t 34) (.t 33))⟩])
      (.seq (.cnd (.t 35)
        .skip
        (.exit 2))
      (.seq (.blk 3 (.seq (.ops [⟨(some 36), none, (.mov (.t 34))⟩,
          ⟨(some 8), none, (.mov (.t 36))⟩])
        (.seq (.ops [⟨(some 38), none, (.mov (.t 0))⟩,
          ⟨(some 39), none, (.mov (.t 8))⟩,
          ⟨(some 40), none, (.callF 109 [(.t 38), (.t 39)])⟩,
          ⟨(some 37), none, (.mov (.t 40))⟩,
          ⟨(some 41), none, (.ext 0 (.t 37))⟩,
          ⟨(some 42), none, (.ext 1 (.t 37))⟩,
          ⟨(some 9), none, (.mov (.t 41))⟩,
          ⟨(some 10), none, (.mov (.t 42))⟩])
        (.seq (.ops [⟨(some 11), none, (.mov (.k (.int .i64 0)))⟩])
        (.seq (.seq (.ops [⟨(some 43), none, (.mov (.t 10))⟩,
          ⟨(some 44), none, (.len false (.t 43))⟩,
          ⟨(some 45), none, (.mov (.k (.int .i64 0)))⟩])
        (.blk 4 (.loop (.seq (.ops [⟨(some 46), none, (.bin .lss (.t 45) (.t 44))⟩])
            (.seq (.cnd (.t 46)
              .skip
              (.exit 4))
            (.seq (.blk 5 (.seq (.ops [⟨(some 47), none, (.mov (.t 45))⟩,
                ⟨(some 48), none, (.ixA 4 (.t 43) (.t 45))⟩,
                ⟨(some 49), none, (.ld 4 true (.t 48))⟩,
                ⟨(some 13), none, (.new [(.int .i64 0), (.int .i64 0), (.int .i64 0), (.int .i64 0)])⟩,
                ⟨(some 12), none, (.mov (.t 47))⟩,
                ⟨none, none, (.st 4 (.t 13) (.t 49))⟩])
              (.seq (.seq (.ops [⟨(some 50), none, (.mov (.t 10))⟩,
                ⟨(some 51), none, (.mov (.t 12))⟩,
                ⟨(some 52), none, (.slS 4 (.t 50) none (some (.t 51)) none)⟩,
                ⟨(some 53), none, (.len false (.t 52))⟩,
                ⟨(some 54), none, (.mov (.k (.int .i64 0)))⟩])
              (.blk 6 (.loop (.seq (.ops [⟨(some 55), none, (.bin .lss (.t 54) (.t 53))⟩])
                  (.seq (.cnd (.t 55)
                    .skip
                    (.exit 6))
                  (.seq (.blk 7 (.seq (.ops [⟨(some 56), none, (.ixA 4 (.t 52) (.t 54))⟩,
                      ⟨(some 57), none, (.ld 4 true (.t 56))⟩,
                      ⟨(some 15), none, (.new [(.int .i64 0), (.int .i64 0), (.int .i64 0), (.int .i64 0)])⟩,
                      ⟨none, none, (.st 4 (.t 15) (.t 57))⟩])
                    (.seq (.ops [⟨(some 58), none, (.ld 4 true (.t 13))⟩,
                      ⟨(some 59), none, (.ld 4 true (.t 15))⟩,
                      ⟨(some 60), none, (.callF 110 [(.t 58), (.t 59)])⟩])
                    (.cnd (.t 60)
                      (.exit 3)
                      .skip))))
                  (.ops [⟨(some 61), none, (.bin .add (.t 54) (.k (.int .i64 1)))⟩,
                    ⟨(some 54), none, (.mov (.t 61))⟩])))))))
              (.ops [⟨(some 62), none, (.mov (.t 11))⟩,
                ⟨(some 63), none, (.flA 3 (.t 13))⟩,
                ⟨(some 64), none, (.ld 1 false (.t 63))⟩,
                ⟨(some 65), none, (.bin .add (.t 62) (.t 64))⟩,
                ⟨(some 11), none, (.mov (.t 65))⟩]))))
            (.ops [⟨(some 66), none, (.bin .add (.t 45) (.k (.int .i64 1)))⟩,
              ⟨(some 45), none, (.mov (.t 66))⟩])))))))
        (.seq (.ops [⟨(some 67), none, (.mov (.t 11))⟩,
          ⟨(some 68), none, (.mov (.t 3))⟩,
          ⟨(some 69), none, (.callF 112 [(.t 67), (.t 68)])⟩,
          ⟨(some 70), none, (.mov (.t 2))⟩,
          ⟨(some 71), none, (.len false (.t 70))⟩,
          ⟨(some 72), none, (.mov (.t 9))⟩,
          ⟨(some 73), none, (.len false (.t 72))⟩,
          ⟨(some 74), none, (.callF 112 [(.t 71), (.t 73)])⟩,
          ⟨(some 75), none, (.mov (.t 2))⟩,
          ⟨(some 76), none, (.mov (.t 9))⟩,
          ⟨(some 77), none, (.callF 113 [(.t 75), (.t 76)])⟩,
          ⟨(some 78), none, (.bsl 1 [[(.int .i64 0)], [(.int .i64 0)], [(.int .i64 0)]] [(0, (.t 69)), (1, (.t 74)), (2, (.t 77))])⟩,
          ⟨(some 79), none, (.callF 111 [(.t 78)])⟩,
          ⟨(some 80), none, (.bin .gtr (.t 79) (.k (.int .i64 0)))⟩])
        (.cnd (.t 80)
          (.ops [⟨(some 81), none, (.mov (.t 9))⟩,
            ⟨(some 82), none, (.mov (.t 11))⟩,
            ⟨(some 2), none, (.mov (.t 81))⟩,
            ⟨(some 3), none, (.mov (.t 82))⟩])
          .skip)))))))
      (.ops [⟨(some 83), none, (.bin .add (.t 34) (.k (.int .i64 1)))⟩,
        ⟨(some 34), none, (.mov (.t 83))⟩])))))))
  (.seq (.ops [⟨(some 84), none, (.mov (.t 2))⟩,
    ⟨(some 85), none, (.mov (.t 3))⟩,
    ⟨(some 2), none, (.mov (.t 84))⟩,
    ⟨(some 3), none, (.mov (.t 85))⟩,
    ⟨(some 4), none, (.mov (.k (.int .i64 0)))⟩])
  .ret))))))⟩
def hint67 (P : Program) : Hint := {}
/-- The best choice, nil or not. -/
def bS (b : List Int) : Option Unit → AV
  | none => .nsl
  | some _ => .slc 1 (iR b) .non
theorem cmpN_g (b : List Int) (hb : b.length < 1000) : Fn0 Try.prog 113 [.nsl, .slc 1 (iR b) .non] (fun v => v = .int .i64 (cmpL [] b)) :=
  RawC.weak (fun _ _ hr => SubL.rel (.cons Sub.nil (.cons (Sub.refl _) .nil)) hr) (cmpL_g [] b (by simp) hb)
theorem Lend_s (l : List Lon) (hl : l.length < 2 ^ 62) : Fn0 Try.prog 67 [.slc 4 (oR l) .non] (fun v => ∃ o, (o = none → (lendV l).1 = []) ∧ v = .tup [bS (lendV l).1 o, .int .i64 (lendV l).2, .int .i64 (lendE l)]) := by
  by_cases h12 : 12 < l.length
  · have hE : lendE l = 8 := by rw [lendE, if_pos h12]
    have hV : lendV l = ([], 0) := by rw [lendV, if_neg (by rw [hE]; decide)]
    rw [hV, hE]
    refine RawC.walk (H := hint67 Try.prog) ir67 Try.func67 rfl rfl rfl ?_
    unfold ir67
    repeat' (first
      | with_reducible (first | refine Rd.p ?_ | refine w_alt ?_ ?_ | refine zE ?_ | refine zE0 ?_)
      | with_reducible (first | refine zI fun y hy => ?_ | refine zL ?_ | refine zS ?_ | refine zA fun _ => ?_ | refine zV ?_ | refine zC ?_ | refine zG ?_ | refine zU ?_ | refine zG0 ?_ | refine zU0 ?_ | refine zF ?_)
      | with_reducible (first | refine zX ?_ | refine zD fun _ => ?_ | refine zD0 ?_ | refine zN ?_ | refine zF0 ?_ | refine zX0 ?_ | refine z1 ?_ | refine z2 ?_ | refine z3 ?_ | refine z4 ?_ | refine z5 ?_ | refine z6 ?_ | refine z7 ?_ | refine z8 ?_ | refine y1 ?_ | refine y2 ?_ | refine y3 ?_ | refine y4 ?_ | refine y5 ?_ | refine y6 ?_ | refine y7 ?_ | refine y8 ?_ | refine Rt.p (fun _ => ?_) fun _ => ?_)
      | ((with_reducible apply w_ixM); (focus exact rfl); (focus exact rfl); case' hk => intro y hy) | ((with_reducible (first | apply w_val | apply q_ends)); (focus exact rfl)))
    exact ⟨none, fun _ => rfl, rfl⟩
  have hE0 : lendE l = lonsE l := by rw [lendE, if_neg h12]
  refine RawC.walk (H := hint67 Try.prog) ir67 Try.func67 rfl rfl rfl ?_
  unfold ir67
  repeat' (first
    | with_reducible (first | refine Rd.p ?_ | refine w_alt ?_ ?_ | refine zE ?_ | refine zE0 ?_)
    | with_reducible (first | refine zI fun y hy => ?_ | refine zL ?_ | refine zS ?_ | refine zA fun _ => ?_ | refine zV ?_ | refine zC ?_ | refine zG ?_ | refine zU ?_ | refine zG0 ?_ | refine zU0 ?_ | refine zF ?_)
    | with_reducible (first | refine zX ?_ | refine zD fun _ => ?_ | refine zD0 ?_ | refine zN ?_ | refine zF0 ?_ | refine zX0 ?_ | refine z1 ?_ | refine z2 ?_ | refine z3 ?_ | refine z4 ?_ | refine z5 ?_ | refine z6 ?_ | refine z7 ?_ | refine z8 ?_ | refine y1 ?_ | refine y2 ?_ | refine y3 ?_ | refine y4 ?_ | refine y5 ?_ | refine y6 ?_ | refine y7 ?_ | refine y8 ?_ | refine Rt.p (fun _ => ?_) fun _ => ?_)
    | ((with_reducible apply w_ixM); (focus exact rfl); (focus exact rfl); case' hk => intro y hy) | ((with_reducible (first | apply w_val | apply q_ends)); (focus exact rfl)))
  refine w_loopK [0, 2, 3, 19, 20] [] (fun x : List Lon × List Lon => l = x.1 ++ x.2 ∧ lonsE l = lonsE x.2) (fun x => x.2.length) (fun x => [(21, .int .i64 x.1.length)]) (fun _ => []) ([], l) ⟨rfl, rfl⟩ ⟨rfl, trivial⟩ trivial ?_
  rintro ⟨pre, post⟩ ⟨hpp, hb⟩ e σ
  dsimp only at hpp hb ⊢
  have hlen := congrArg List.length hpp
  rw [List.length_append] at hlen
  cases post with
  | cons d post =>
    simp only [List.length_cons] at hlen
    simp only [lonsE] at hb
    have hd := loan_s d
    by_cases hz : lonE d = 0
    · rw [if_pos hz] at hb
      repeat' (first
        | with_reducible (first | refine Rd.p ?_ | refine w_alt ?_ ?_ | refine zE ?_ | refine zE0 ?_)
        | (refine w_ixP hpp rfl rfl ?_)
        | with_reducible (first | refine zI fun y hy => ?_ | refine zL ?_ | refine zS ?_ | refine zA fun _ => ?_ | refine zV ?_ | refine zC ?_ | refine zG ?_ | refine zU ?_ | refine zG0 ?_ | refine zU0 ?_ | refine zF ?_)
        | ((with_reducible refine acall_id ?_); refine ACall.val hd rfl rfl ?_)
        | with_reducible (first | refine zX ?_ | refine zD fun _ => ?_ | refine zD0 ?_ | refine zN ?_ | refine zF0 ?_ | refine zX0 ?_ | refine z1 ?_ | refine z2 ?_ | refine z3 ?_ | refine z4 ?_ | refine z5 ?_ | refine z6 ?_ | refine z7 ?_ | refine z8 ?_ | refine y1 ?_ | refine y2 ?_ | refine y3 ?_ | refine y4 ?_ | refine y5 ?_ | refine y6 ?_ | refine y7 ?_ | refine y8 ?_ | refine Rt.p (fun _ => ?_) fun _ => ?_)
        | ((with_reducible apply w_ixM); (focus exact rfl); (focus exact rfl); case' hk => intro y hy) | ((with_reducible (first | apply w_val | apply q_ends)); (focus exact rfl)))
      refine q_loop (pre ++ [d], post) ⟨by show l = _; rw [hpp]; simp, hb⟩ (by simp) (slots_cons (by show AV.int .i64 _ = AV.int .i64 _; refine int_eq ?_; simp) slots_nil) trivial (by repeat' (first | exact kept_nil | apply kept_cons | rfl)) (by repeat' (first | exact kept_nil | apply kept_cons | rfl))
    · rw [if_neg hz] at hb
      have hE : lendE l = lonE d := by rw [hE0, hb]
      have hV : lendV l = ([], 0) := by rw [lendV, if_neg (by rw [hE]; exact hz)]
      rw [hV, hE]
      repeat' (first
        | with_reducible (first | refine Rd.p ?_ | refine w_alt ?_ ?_ | refine zE ?_ | refine zE0 ?_)
        | (refine w_ixP hpp rfl rfl ?_)
        | with_reducible (first | refine zI fun y hy => ?_ | refine zL ?_ | refine zS ?_ | refine zA fun _ => ?_ | refine zV ?_ | refine zC ?_ | refine zG ?_ | refine zU ?_ | refine zG0 ?_ | refine zU0 ?_ | refine zF ?_)
        | ((with_reducible refine acall_id ?_); refine ACall.val hd rfl rfl ?_)
        | with_reducible (first | refine zX ?_ | refine zD fun _ => ?_ | refine zD0 ?_ | refine zN ?_ | refine zF0 ?_ | refine zX0 ?_ | refine z1 ?_ | refine z2 ?_ | refine z3 ?_ | refine z4 ?_ | refine z5 ?_ | refine z6 ?_ | refine z7 ?_ | refine z8 ?_ | refine y1 ?_ | refine y2 ?_ | refine y3 ?_ | refine y4 ?_ | refine y5 ?_ | refine y6 ?_ | refine y7 ?_ | refine y8 ?_ | refine Rt.p (fun _ => ?_) fun _ => ?_)
        | ((with_reducible apply w_ixM); (focus exact rfl); (focus exact rfl); case' hk => intro y hy) | ((with_reducible (first | apply w_val | apply q_ends)); (focus exact rfl)))
      exact ⟨none, fun _ => rfl, rfl⟩
  | nil =>
    simp only [List.length_nil] at hlen
    have hE : lendE l = 0 := by rw [hE0, hb]; rfl
    have hwo : ∀ x ∈ l, 0 ≤ x.wo ∧ x.wo ≤ 1000 := fun x hx => lonE_0 (lonsE_0 (by rw [← hE0]; exact hE) x hx)
    have hV : lendV l = foldI (stepL l) (2 ^ l.length) 0 ([], 0) := by rw [lendV, if_pos hE]
    obtain ⟨T, hT⟩ : ∃ T : Nat, T = 2 ^ l.length := ⟨_, rfl⟩
    have hTb : T ≤ 4096 := by
      rw [hT]
      exact Nat.le_trans (Nat.pow_le_pow_right (by omega) (show l.length ≤ 12 by omega)) (by decide)
    have hTi : (1 : Int) * 2 ^ (min ((l.length : Int)).toNat IntKind.i64.bits) = (T : Int) := by
      rw [hT, Int.toNat_natCast, show min l.length IntKind.i64.bits = l.length from Nat.min_eq_left (by show l.length ≤ 64; omega)]
      simp
    rw [hV, hE, ← hT]
    obtain ⟨FV, hFV⟩ : ∃ FV, FV = foldI (stepL l) T 0 ([], 0) := ⟨_, rfl⟩
    rw [← hFV]
    repeat' (first
      | with_reducible (first | refine Rd.p ?_ | refine w_alt ?_ ?_ | refine zE ?_ | refine zE0 ?_)
      | with_reducible (first | refine zI fun y hy => ?_ | refine zL ?_ | refine zS ?_ | refine zA fun _ => ?_ | refine zV ?_ | refine zC ?_ | refine zG ?_ | refine zU ?_ | refine zG0 ?_ | refine zU0 ?_ | refine zF ?_)
      | with_reducible (first | refine zX ?_ | refine zD fun _ => ?_ | refine zD0 ?_ | refine zN ?_ | refine zF0 ?_ | refine zX0 ?_ | refine z1 ?_ | refine z2 ?_ | refine z3 ?_ | refine z4 ?_ | refine z5 ?_ | refine z6 ?_ | refine z7 ?_ | refine z8 ?_ | refine y1 ?_ | refine y2 ?_ | refine y3 ?_ | refine y4 ?_ | refine y5 ?_ | refine y6 ?_ | refine y7 ?_ | refine y8 ?_ | refine Rt.p (fun _ => ?_) fun _ => ?_)
      | ((with_reducible apply w_ixM); (focus exact rfl); (focus exact rfl); case' hk => intro y hy) | ((with_reducible (first | apply w_val | apply q_ends)); (focus exact rfl)))
    refine w_loopK [0] [] (fun x : Nat × List Int × Int × Option Unit => x.1 ≤ T ∧ FV = foldI (stepL l) (T - x.1) x.1 (x.2.1, x.2.2.1) ∧ (x.2.2.2 = none → x.2.1 = []) ∧ x.2.1.length ≤ 12) (fun x => T - x.1) (fun x => [(34, .int .i64 x.1), (33, .int .i64 T), (2, bS x.2.1 x.2.2.2), (3, .int .i64 x.2.2.1)]) (fun _ => []) (0, [], 0, none) ⟨Nat.zero_le _, hFV, fun _ => rfl, by simp⟩ ⟨rfl, by show AV.int .i64 _ = AV.int .i64 _; refine int_eq ?_; exact hTi, rfl, rfl, trivial⟩ trivial ?_
    rintro ⟨set, b, w, o⟩ ⟨hst, hfo, hob, hbl⟩ e σ
    dsimp only at hst hfo hob hbl ⊢
    by_cases hsT : set = T
    · rw [hsT, Nat.sub_self, foldI] at hfo
      rcases o with _ | u
      · repeat' (first
          | with_reducible (first | refine Rd.p ?_ | refine w_alt ?_ ?_ | refine zE ?_ | refine zE0 ?_)
          | with_reducible (first | refine zI fun y hy => ?_ | refine zL ?_ | refine zS ?_ | refine zA fun _ => ?_ | refine zV ?_ | refine zC ?_ | refine zG ?_ | refine zU ?_ | refine zG0 ?_ | refine zU0 ?_ | refine zF ?_)
          | with_reducible (first | refine zX ?_ | refine zD fun _ => ?_ | refine zD0 ?_ | refine zN ?_ | refine zF0 ?_ | refine zX0 ?_ | refine z1 ?_ | refine z2 ?_ | refine z3 ?_ | refine z4 ?_ | refine z5 ?_ | refine z6 ?_ | refine z7 ?_ | refine z8 ?_ | refine y1 ?_ | refine y2 ?_ | refine y3 ?_ | refine y4 ?_ | refine y5 ?_ | refine y6 ?_ | refine y7 ?_ | refine y8 ?_ | refine Rt.p (fun _ => ?_) fun _ => ?_)
          | ((with_reducible apply w_ixM); (focus exact rfl); (focus exact rfl); case' hk => intro y hy) | ((with_reducible (first | apply w_val | apply q_ends)); (focus exact rfl)))
        exact ⟨none, by rw [hfo]; exact hob, by rw [hfo]; rfl⟩
      · repeat' (first
          | with_reducible (first | refine Rd.p ?_ | refine w_alt ?_ ?_ | refine zE ?_ | refine zE0 ?_)
          | with_reducible (first | refine zI fun y hy => ?_ | refine zL ?_ | refine zS ?_ | refine zA fun _ => ?_ | refine zV ?_ | refine zC ?_ | refine zG ?_ | refine zU ?_ | refine zG0 ?_ | refine zU0 ?_ | refine zF ?_)
          | with_reducible (first | refine zX ?_ | refine zD fun _ => ?_ | refine zD0 ?_ | refine zN ?_ | refine zF0 ?_ | refine zX0 ?_ | refine z1 ?_ | refine z2 ?_ | refine z3 ?_ | refine z4 ?_ | refine z5 ?_ | refine z6 ?_ | refine z7 ?_ | refine z8 ?_ | refine y1 ?_ | refine y2 ?_ | refine y3 ?_ | refine y4 ?_ | refine y5 ?_ | refine y6 ?_ | refine y7 ?_ | refine y8 ?_ | refine Rt.p (fun _ => ?_) fun _ => ?_)
          | ((with_reducible apply w_ixM); (focus exact rfl); (focus exact rfl); case' hk => intro y hy) | ((with_reducible (first | apply w_val | apply q_ends)); (focus exact rfl)))
        exact ⟨some u, by rw [hfo]; exact hob, by rw [hfo]; rfl⟩
    have hsT2 : set < T := by omega
    rw [show T - set = (T - (set + 1)) + 1 by omega, foldI] at hfo
    have hch := chosen_s l set (by omega) (by omega)
    have hNl := bitsL_len set l.length
    have hTl := chT_len l set
    have hTw : ∀ x ∈ chT l set, 0 ≤ x.wo ∧ x.wo ≤ 1000 := fun x hx => hwo x (chT_mem hx)
    obtain ⟨N, hN⟩ : ∃ N, N = bitsL set l.length := ⟨_, rfl⟩
    obtain ⟨C, hC⟩ : ∃ C, C = chT l set := ⟨_, rfl⟩
    have hs1 : okS [] C = false → stepL l (b, w) set = (b, w) := fun h => by rw [stepL, ← hC, if_neg (by rw [h]; simp)]
    have hs2 : okS [] C = true → 0 < orI (cmpI (sumL C) w) (cmpI b.length N.length) (cmpL b N) → stepL l (b, w) set = (N, sumL C) := fun h h2 => by rw [stepL, ← hC, ← hN, if_pos ⟨h, h2⟩]
    have hs3 : ¬ 0 < orI (cmpI (sumL C) w) (cmpI b.length N.length) (cmpL b N) → stepL l (b, w) set = (b, w) := fun h2 => by rw [stepL, ← hC, ← hN, if_neg (fun h => h2 h.2)]
    rw [← hN, ← hC] at hch
    rw [← hN] at hNl
    rw [← hC] at hTl hTw
    repeat' (first
      | with_reducible (first | refine Rd.p ?_ | refine w_alt ?_ ?_ | refine zE ?_ | refine zE0 ?_)
      | with_reducible (first | refine zI fun y hy => ?_ | refine zL ?_ | refine zS ?_ | refine zA fun _ => ?_ | refine zV ?_ | refine zC ?_ | refine zG ?_ | refine zU ?_ | refine zG0 ?_ | refine zU0 ?_ | refine zF ?_)
      | ((with_reducible refine acall_id ?_); refine ACall.val hch rfl rfl ?_)
      | with_reducible (first | refine zX ?_ | refine zD fun _ => ?_ | refine zD0 ?_ | refine zN ?_ | refine zF0 ?_ | refine zX0 ?_ | refine z1 ?_ | refine z2 ?_ | refine z3 ?_ | refine z4 ?_ | refine z5 ?_ | refine z6 ?_ | refine z7 ?_ | refine z8 ?_ | refine y1 ?_ | refine y2 ?_ | refine y3 ?_ | refine y4 ?_ | refine y5 ?_ | refine y6 ?_ | refine y7 ?_ | refine y8 ?_ | refine Rt.p (fun _ => ?_) fun _ => ?_)
      | ((with_reducible apply w_ixM); (focus exact rfl); (focus exact rfl); case' hk => intro y hy) | ((with_reducible (first | apply w_val | apply q_ends)); (focus exact rfl)))
    refine w_loopK [0, 2, 3, 9, 10, 33, 34, 43, 44] [] (fun x : List Lon × List Lon => C = x.1 ++ x.2 ∧ okS [] C = okS x.1 x.2) (fun x => x.2.length) (fun x => [(45, .int .i64 x.1.length), (11, .int .i64 (sumL x.1))]) (fun _ => []) ([], C) ⟨rfl, rfl⟩ ⟨rfl, rfl, trivial⟩ trivial ?_
    rintro ⟨pre, post⟩ ⟨hpp, hok⟩ e σ
    dsimp only at hpp hok ⊢
    have hlen := congrArg List.length hpp
    rw [List.length_append] at hlen
    cases post with
    | nil =>
      simp only [List.length_nil] at hlen
      rw [List.append_nil] at hpp
      have hok : okS [] C = true := by rw [hok]; rfl
      rw [← hpp]
      have hO := or_g (cmpI (sumL C) w) (cmpI b.length N.length) (cmpL b N)
      have hc1 := cmp_g (sumL C) w
      have hc2 := cmp_g b.length N.length
      rcases o with _ | u
      · obtain rfl := hob rfl
        have hc3 := cmpN_g N (by omega)
        by_cases hg : 0 < orI (cmpI (sumL C) w) (cmpI ([] : List Int).length N.length) (cmpL [] N)
        · rw [hs2 hok hg] at hfo
          repeat' (first
            | with_reducible (first | refine Rd.p ?_ | refine w_alt ?_ ?_ | refine zE ?_ | refine zE0 ?_)
            | with_reducible (first | refine zI fun y hy => ?_ | refine zL ?_ | refine zS ?_ | refine zA fun _ => ?_ | refine zV ?_ | refine zC ?_ | refine zG ?_ | refine zU ?_ | refine zG0 ?_ | refine zU0 ?_ | refine zF ?_)
            | ((with_reducible refine acall_id ?_); refine ACall.val hc1 rfl rfl ?_)
            | ((with_reducible refine acall_id ?_); refine ACall.val hc2 rfl rfl ?_)
            | ((with_reducible refine acall_id ?_); refine ACall.val hc3 rfl rfl ?_)
            | ((with_reducible refine acall_id ?_); refine ACall.val hO rfl rfl ?_)
            | with_reducible (first | refine zX ?_ | refine zD fun _ => ?_ | refine zD0 ?_ | refine zN ?_ | refine zF0 ?_ | refine zX0 ?_ | refine z1 ?_ | refine z2 ?_ | refine z3 ?_ | refine z4 ?_ | refine z5 ?_ | refine z6 ?_ | refine z7 ?_ | refine z8 ?_ | refine y1 ?_ | refine y2 ?_ | refine y3 ?_ | refine y4 ?_ | refine y5 ?_ | refine y6 ?_ | refine y7 ?_ | refine y8 ?_ | refine Rt.p (fun _ => ?_) fun _ => ?_)
            | ((with_reducible apply w_ixM); (focus exact rfl); (focus exact rfl); case' hk => intro y hy) | ((with_reducible (first | apply w_val | apply q_ends)); (focus exact rfl)))
          exact q_loop (set + 1, N, sumL C, some ()) ⟨hsT2, hfo, (fun h => by cases h), by show N.length ≤ 12; omega⟩ (by show T - (set + 1) < T - set; omega) (slots_cons (by show AV.int .i64 _ = AV.int .i64 _; refine int_eq ?_; simp) (slots_cons rfl (slots_cons rfl (slots_cons rfl slots_nil)))) trivial (by repeat' (first | exact kept_nil | apply kept_cons | rfl)) (by repeat' (first | exact kept_nil | apply kept_cons | rfl))
        · rw [hs3 hg] at hfo
          repeat' (first
            | with_reducible (first | refine Rd.p ?_ | refine w_alt ?_ ?_ | refine zE ?_ | refine zE0 ?_)
            | with_reducible (first | refine zI fun y hy => ?_ | refine zL ?_ | refine zS ?_ | refine zA fun _ => ?_ | refine zV ?_ | refine zC ?_ | refine zG ?_ | refine zU ?_ | refine zG0 ?_ | refine zU0 ?_ | refine zF ?_)
            | ((with_reducible refine acall_id ?_); refine ACall.val hc1 rfl rfl ?_)
            | ((with_reducible refine acall_id ?_); refine ACall.val hc2 rfl rfl ?_)
            | ((with_reducible refine acall_id ?_); refine ACall.val hc3 rfl rfl ?_)
            | ((with_reducible refine acall_id ?_); refine ACall.val hO rfl rfl ?_)
            | with_reducible (first | refine zX ?_ | refine zD fun _ => ?_ | refine zD0 ?_ | refine zN ?_ | refine zF0 ?_ | refine zX0 ?_ | refine z1 ?_ | refine z2 ?_ | refine z3 ?_ | refine z4 ?_ | refine z5 ?_ | refine z6 ?_ | refine z7 ?_ | refine z8 ?_ | refine y1 ?_ | refine y2 ?_ | refine y3 ?_ | refine y4 ?_ | refine y5 ?_ | refine y6 ?_ | refine y7 ?_ | refine y8 ?_ | refine Rt.p (fun _ => ?_) fun _ => ?_)
            | ((with_reducible apply w_ixM); (focus exact rfl); (focus exact rfl); case' hk => intro y hy) | ((with_reducible (first | apply w_val | apply q_ends)); (focus exact rfl)))
          exact q_loop (set + 1, [], w, none) ⟨hsT2, hfo, hob, hbl⟩ (by show T - (set + 1) < T - set; omega) (slots_cons (by show AV.int .i64 _ = AV.int .i64 _; refine int_eq ?_; simp) (slots_cons rfl (slots_cons rfl (slots_cons rfl slots_nil)))) trivial (by repeat' (first | exact kept_nil | apply kept_cons | rfl)) (by repeat' (first | exact kept_nil | apply kept_cons | rfl))
      · have hc3 := cmpL_g b N (by omega) (by omega)
        by_cases hg : 0 < orI (cmpI (sumL C) w) (cmpI b.length N.length) (cmpL b N)
        · rw [hs2 hok hg] at hfo
          repeat' (first
            | with_reducible (first | refine Rd.p ?_ | refine w_alt ?_ ?_ | refine zE ?_ | refine zE0 ?_)
            | with_reducible (first | refine zI fun y hy => ?_ | refine zL ?_ | refine zS ?_ | refine zA fun _ => ?_ | refine zV ?_ | refine zC ?_ | refine zG ?_ | refine zU ?_ | refine zG0 ?_ | refine zU0 ?_ | refine zF ?_)
            | ((with_reducible refine acall_id ?_); refine ACall.val hc1 rfl rfl ?_)
            | ((with_reducible refine acall_id ?_); refine ACall.val hc2 rfl rfl ?_)
            | ((with_reducible refine acall_id ?_); refine ACall.val hc3 rfl rfl ?_)
            | ((with_reducible refine acall_id ?_); refine ACall.val hO rfl rfl ?_)
            | with_reducible (first | refine zX ?_ | refine zD fun _ => ?_ | refine zD0 ?_ | refine zN ?_ | refine zF0 ?_ | refine zX0 ?_ | refine z1 ?_ | refine z2 ?_ | refine z3 ?_ | refine z4 ?_ | refine z5 ?_ | refine z6 ?_ | refine z7 ?_ | refine z8 ?_ | refine y1 ?_ | refine y2 ?_ | refine y3 ?_ | refine y4 ?_ | refine y5 ?_ | refine y6 ?_ | refine y7 ?_ | refine y8 ?_ | refine Rt.p (fun _ => ?_) fun _ => ?_)
            | ((with_reducible apply w_ixM); (focus exact rfl); (focus exact rfl); case' hk => intro y hy) | ((with_reducible (first | apply w_val | apply q_ends)); (focus exact rfl)))
          exact q_loop (set + 1, N, sumL C, some ()) ⟨hsT2, hfo, (fun h => by cases h), by show N.length ≤ 12; omega⟩ (by show T - (set + 1) < T - set; omega) (slots_cons (by show AV.int .i64 _ = AV.int .i64 _; refine int_eq ?_; simp) (slots_cons rfl (slots_cons rfl (slots_cons rfl slots_nil)))) trivial (by repeat' (first | exact kept_nil | apply kept_cons | rfl)) (by repeat' (first | exact kept_nil | apply kept_cons | rfl))
        · rw [hs3 hg] at hfo
          repeat' (first
            | with_reducible (first | refine Rd.p ?_ | refine w_alt ?_ ?_ | refine zE ?_ | refine zE0 ?_)
            | with_reducible (first | refine zI fun y hy => ?_ | refine zL ?_ | refine zS ?_ | refine zA fun _ => ?_ | refine zV ?_ | refine zC ?_ | refine zG ?_ | refine zU ?_ | refine zG0 ?_ | refine zU0 ?_ | refine zF ?_)
            | ((with_reducible refine acall_id ?_); refine ACall.val hc1 rfl rfl ?_)
            | ((with_reducible refine acall_id ?_); refine ACall.val hc2 rfl rfl ?_)
            | ((with_reducible refine acall_id ?_); refine ACall.val hc3 rfl rfl ?_)
            | ((with_reducible refine acall_id ?_); refine ACall.val hO rfl rfl ?_)
            | with_reducible (first | refine zX ?_ | refine zD fun _ => ?_ | refine zD0 ?_ | refine zN ?_ | refine zF0 ?_ | refine zX0 ?_ | refine z1 ?_ | refine z2 ?_ | refine z3 ?_ | refine z4 ?_ | refine z5 ?_ | refine z6 ?_ | refine z7 ?_ | refine z8 ?_ | refine y1 ?_ | refine y2 ?_ | refine y3 ?_ | refine y4 ?_ | refine y5 ?_ | refine y6 ?_ | refine y7 ?_ | refine y8 ?_ | refine Rt.p (fun _ => ?_) fun _ => ?_)
            | ((with_reducible apply w_ixM); (focus exact rfl); (focus exact rfl); case' hk => intro y hy) | ((with_reducible (first | apply w_val | apply q_ends)); (focus exact rfl)))
          exact q_loop (set + 1, b, w, some ()) ⟨hsT2, hfo, hob, hbl⟩ (by show T - (set + 1) < T - set; omega) (slots_cons (by show AV.int .i64 _ = AV.int .i64 _; refine int_eq ?_; simp) (slots_cons rfl (slots_cons rfl (slots_cons rfl slots_nil)))) trivial (by repeat' (first | exact kept_nil | apply kept_cons | rfl)) (by repeat' (first | exact kept_nil | apply kept_cons | rfl))
    | cons y post =>
      simp only [List.length_cons] at hlen
      have hy := hTw y (by rw [hpp]; simp)
      have hsp := sumL_bd (l := pre) fun x hx => hTw x (by rw [hpp]; simp [hx])
      have hss := sumL_snoc pre y
      have ht : (C.drop (0 : Int).toNat).take ((pre.length : Int) - 0).toNat = pre := by rw [hpp]; simp
      repeat' (first
        | with_reducible (first | refine Rd.p ?_ | refine w_alt ?_ ?_ | refine zE ?_ | refine zE0 ?_)
        | (refine w_ixP hpp rfl rfl ?_)
        | with_reducible (first | refine zI fun y hy => ?_ | refine zL ?_ | refine zS ?_ | refine zA fun _ => ?_ | refine zV ?_ | refine zC ?_ | refine zG ?_ | refine zU ?_ | refine zG0 ?_ | refine zU0 ?_ | refine zF ?_)
        | with_reducible (first | refine zX ?_ | refine zD fun _ => ?_ | refine zD0 ?_ | refine zN ?_ | refine zF0 ?_ | refine zX0 ?_ | refine z1 ?_ | refine z2 ?_ | refine z3 ?_ | refine z4 ?_ | refine z5 ?_ | refine z6 ?_ | refine z7 ?_ | refine z8 ?_ | refine y1 ?_ | refine y2 ?_ | refine y3 ?_ | refine y4 ?_ | refine y5 ?_ | refine y6 ?_ | refine y7 ?_ | refine y8 ?_ | refine Rt.p (fun _ => ?_) fun _ => ?_)
        | ((with_reducible apply w_ixM); (focus exact rfl); (focus exact rfl); case' hk => intro y hy) | ((with_reducible (first | apply w_val | apply q_ends)); (focus exact rfl)))
      rename_i g13
      refine w_loopK [0, 2, 3, 9, 10, 11, 13, 33, 34, 43, 44, 45] [13] (fun x : List Lon × List Lon => pre = x.1 ++ x.2 ∧ (x.1.all fun z => !agB y z) = true) (fun x => x.2.length) (fun x => [(54, .int .i64 x.1.length), (52, .slc 4 (oR pre) .non), (53, .int .i64 pre.length)]) (fun _ => []) ([], pre) ⟨rfl, rfl⟩ ⟨rfl, by show AV.slc 4 _ .non = _; rw [ht], by show AV.int .i64 _ = _; rw [ht], trivial⟩ trivial ?_
      rintro ⟨p1, p2⟩ ⟨hp1, hall⟩ e σ
      dsimp only at hp1 hall ⊢
      have hlen2 := congrArg List.length hp1
      rw [List.length_append] at hlen2
      cases p2 with
      | nil =>
        simp only [List.length_nil] at hlen2
        rw [List.append_nil] at hp1
        rw [← hp1] at hall
        repeat' (first
          | with_reducible (first | refine Rd.p ?_ | refine w_alt ?_ ?_ | refine zE ?_ | refine zE0 ?_)
          | with_reducible (first | refine zI fun y hy => ?_ | refine zL ?_ | refine zS ?_ | refine zA fun _ => ?_ | refine zV ?_ | refine zC ?_ | refine zG ?_ | refine zU ?_ | refine zG0 ?_ | refine zU0 ?_ | refine zF ?_)
          | with_reducible (first | refine zX ?_ | refine zD fun _ => ?_ | refine zD0 ?_ | refine zN ?_ | refine zF0 ?_ | refine zX0 ?_ | refine z1 ?_ | refine z2 ?_ | refine z3 ?_ | refine z4 ?_ | refine z5 ?_ | refine z6 ?_ | refine z7 ?_ | refine z8 ?_ | refine y1 ?_ | refine y2 ?_ | refine y3 ?_ | refine y4 ?_ | refine y5 ?_ | refine y6 ?_ | refine y7 ?_ | refine y8 ?_ | refine Rt.p (fun _ => ?_) fun _ => ?_)
          | ((with_reducible apply w_ixM); (focus exact rfl); (focus exact rfl); case' hk => intro y hy) | ((with_reducible (first | apply w_val | apply q_ends)); (focus exact rfl)))
        refine q_loop (pre ++ [y], post) ⟨by show C = _; rw [hpp]; simp, ?_⟩ (by simp) (slots_cons (by show AV.int .i64 _ = AV.int .i64 _; refine int_eq ?_; simp) (slots_cons (by show AV.int .i64 _ = AV.int .i64 _; rw [hss]) slots_nil)) trivial (by repeat' (first | exact kept_nil | apply kept_cons | rfl)) (by repeat' (first | exact kept_nil | apply kept_cons | rfl))
        show okS [] C = okS (pre ++ [y]) post
        rw [hok, okS, hall, Bool.true_and]
      | cons z p2 =>
        simp only [List.length_cons] at hlen2
        have hag := against_s y z
        cases hz : agB y z with
        | true =>
          rw [hz] at hag
          have hf : okS [] C = false := by
            rw [hok, okS]
            have : (pre.all fun x => !agB y x) = false := by rw [hp1]; simp [hz]
            rw [this]; rfl
          rw [hs1 hf] at hfo
          repeat' (first
            | with_reducible (first | refine Rd.p ?_ | refine w_alt ?_ ?_ | refine zE ?_ | refine zE0 ?_)
            | (refine w_ixP hp1 rfl rfl ?_)
            | with_reducible (first | refine zI fun y hy => ?_ | refine zL ?_ | refine zS ?_ | refine zA fun _ => ?_ | refine zV ?_ | refine zC ?_ | refine zG ?_ | refine zU ?_ | refine zG0 ?_ | refine zU0 ?_ | refine zF ?_)
            | ((with_reducible refine acall_id ?_); refine ACall.val hag rfl rfl ?_)
            | with_reducible (first | refine zX ?_ | refine zD fun _ => ?_ | refine zD0 ?_ | refine zN ?_ | refine zF0 ?_ | refine zX0 ?_ | refine z1 ?_ | refine z2 ?_ | refine z3 ?_ | refine z4 ?_ | refine z5 ?_ | refine z6 ?_ | refine z7 ?_ | refine z8 ?_ | refine y1 ?_ | refine y2 ?_ | refine y3 ?_ | refine y4 ?_ | refine y5 ?_ | refine y6 ?_ | refine y7 ?_ | refine y8 ?_ | refine Rt.p (fun _ => ?_) fun _ => ?_)
            | ((with_reducible apply w_ixM); (focus exact rfl); (focus exact rfl); case' hk => intro y hy) | ((with_reducible (first | apply w_val | apply q_ends)); (focus exact rfl)))
          exact q_loop (set + 1, b, w, o) ⟨hsT2, hfo, hob, hbl⟩ (by show T - (set + 1) < T - set; omega) (slots_cons (by show AV.int .i64 _ = AV.int .i64 _; refine int_eq ?_; simp) (slots_cons rfl (slots_cons rfl (slots_cons rfl slots_nil)))) trivial (by repeat' (first | exact kept_nil | apply kept_cons | rfl)) (by repeat' (first | exact kept_nil | apply kept_cons | rfl))
        | false =>
          rw [hz] at hag
          repeat' (first
            | with_reducible (first | refine Rd.p ?_ | refine w_alt ?_ ?_ | refine zE ?_ | refine zE0 ?_)
            | (refine w_ixP hp1 rfl rfl ?_)
            | with_reducible (first | refine zI fun y hy => ?_ | refine zL ?_ | refine zS ?_ | refine zA fun _ => ?_ | refine zV ?_ | refine zC ?_ | refine zG ?_ | refine zU ?_ | refine zG0 ?_ | refine zU0 ?_ | refine zF ?_)
            | ((with_reducible refine acall_id ?_); refine ACall.val hag rfl rfl ?_)
            | with_reducible (first | refine zX ?_ | refine zD fun _ => ?_ | refine zD0 ?_ | refine zN ?_ | refine zF0 ?_ | refine zX0 ?_ | refine z1 ?_ | refine z2 ?_ | refine z3 ?_ | refine z4 ?_ | refine z5 ?_ | refine z6 ?_ | refine z7 ?_ | refine z8 ?_ | refine y1 ?_ | refine y2 ?_ | refine y3 ?_ | refine y4 ?_ | refine y5 ?_ | refine y6 ?_ | refine y7 ?_ | refine y8 ?_ | refine Rt.p (fun _ => ?_) fun _ => ?_)
            | ((with_reducible apply w_ixM); (focus exact rfl); (focus exact rfl); case' hk => intro y hy) | ((with_reducible (first | apply w_val | apply q_ends)); (focus exact rfl)))
          refine q_loop (p1 ++ [z], p2) ⟨by show pre = _; rw [hp1]; simp, by simp only [List.all_append, hall, Bool.true_and]; simp [hz]⟩ (by simp) (slots_cons (by show AV.int .i64 _ = AV.int .i64 _; refine int_eq ?_; simp) (slots_cons rfl (slots_cons rfl slots_nil))) trivial (by repeat' (first | exact kept_nil | apply kept_cons | rfl)) (by repeat' (first | exact kept_nil | apply kept_cons | rfl))
end Go.Abs
