/- A part of the proofs of the laws of this seat: contracts of the functions that they reach, each proved of the program's form in Lean. No condition beyond those that each contract names. -/
import Derived.Test.YtmekfgjlcaonjaaH4
import Derived.Test.YtmekfgjlcaonjaaH3
import Derived.Test.YtmekfgjlcaonjaaH2
import Derived.Test.YtmekfgjlcaonjaaH1
import Derived.Test.YtmekfgjlcaonjaaE9
import Derived.Test.YtmekfgjlcaonjaaE7
import Derived.Test.YtmekfgjlcaonjaaC12
import Derived.Test.YtmekfgjlcaonjaaC11
import Derived.Test.YtmekfgjlcaonjaaC10
import Derived.Test.YtmekfgjlcaonjaaC9
import Derived.Test.YtmekfgjlcaonjaaC8
import Derived.Test.YtmekfgjlcaonjaaC7
import Derived.Test.YtmekfgjlcaonjaaC5
import Derived.Test.YtmekfgjlcaonjaaC4
import Derived.Test.YtmekfgjlcaonjaaC2
import Derived.Test.YtmekfgjlcaonjaaC1
import Derived.Test.YtmekfgjlcaonjaaB
import Derived.Test.YtmekfgjlcaonjaaE3
import Derived.Test.YtmekfgjlcaonjaaE2
import Derived.Test.YtmekfgjlcaonjaaD8
import Derived.Test.YtmekfgjlcaonjaaC19
import Derived.Test.YtmekfgjlcaonjaaC17
import Derived.Test.YtmekfgjlcaonjaaC14
import Derived.Test.YtmekfgjlcaonjaaC13
import Derived.Test.YtmekfgjlcaonjaaC18
import Derived.Test.YtmekfgjlcaonjaaC16
set_option linter.unusedVariables false
set_option linter.unusedSimpArgs false
set_option maxRecDepth 20000
set_option maxHeartbeats 2000000
namespace Go.Abs
open Go.Proofs
/-- aloeswood/aloeswoodlaw09.StoreFresh -/
def ir7 : IFn :=
  ⟨139, [(2, none)], (.seq (.ops [⟨(some 2), none, (.mov (.k (.bool false)))⟩])
  (.seq (.ops [⟨(some 17), none, (.mov (.t 0))⟩,
    ⟨(some 18), none, (.callF 17 [(.t 17)])⟩,
    ⟨(some 3), none, (.mov (.t 18))⟩])
  (.seq (.ops [⟨(some 19), none, (.mov (.t 3))⟩,
    ⟨(some 20), none, (.callF 42 [(.t 19), (.k (.int .i64 6))])⟩,
    ⟨(some 4), none, (.new [.nsl, .nsl])⟩,
    ⟨none, none, (.st 2 (.t 4) (.t 20))⟩])
  (.seq (.ops [⟨(some 22), none, (.ld 2 true (.t 4))⟩,
    ⟨(some 23), none, (.callF 44 [(.t 22)])⟩,
    ⟨(some 21), none, (.mov (.t 23))⟩,
    ⟨(some 24), none, (.ext 0 (.t 21))⟩,
    ⟨(some 25), none, (.ext 1 (.t 21))⟩,
    ⟨(some 5), none, (.mov (.t 24))⟩,
    ⟨(some 6), none, (.mov (.t 25))⟩])
  (.seq (.ops [⟨(some 26), none, (.ld 2 true (.t 4))⟩,
    ⟨(some 27), none, (.callF 43 [(.t 26)])⟩,
    ⟨(some 7), none, (.new [.nsl, .nsl])⟩,
    ⟨none, none, (.st 2 (.t 7) (.t 27))⟩])
  (.seq (.ops [⟨(some 28), none, (.flA 0 (.t 7))⟩,
    ⟨(some 29), none, (.ld 1 false (.t 28))⟩,
    ⟨(some 30), none, (.mov (.t 3))⟩,
    ⟨(some 31), none, (.flA 0 (.t 7))⟩,
    ⟨(some 32), none, (.ld 1 false (.t 31))⟩,
    ⟨(some 33), none, (.len false (.t 32))⟩,
    ⟨(some 34), none, (.callF 20 [(.t 30), (.t 33)])⟩,
    ⟨none, none, (.chk 1 false (.t 28) 29)⟩,
    ⟨(some 35), none, (.ixA 1 (.t 29) (.t 34))⟩,
    ⟨(some 36), none, (.ld 1 false (.t 35))⟩,
    ⟨(some 37), none, (.bin .add (.t 36) (.k (.int .i64 1)))⟩,
    ⟨(some 38), none, (.ixA 1 (.t 29) (.t 34))⟩,
    ⟨none, none, (.st 1 (.t 38) (.t 37))⟩])
  (.seq (.seq (.frz (.t 29))
  (.ops [⟨(some 40), none, (.ld 2 true (.t 7))⟩,
    ⟨(some 41), none, (.callF 44 [(.t 40)])⟩,
    ⟨(some 39), none, (.mov (.t 41))⟩,
    ⟨(some 42), none, (.ext 0 (.t 39))⟩,
    ⟨(some 43), none, (.ext 1 (.t 39))⟩,
    ⟨(some 8), none, (.mov (.t 42))⟩,
    ⟨(some 9), none, (.mov (.t 43))⟩]))
  (.seq (.ops [⟨(some 45), none, (.ld 2 true (.t 4))⟩,
    ⟨(some 46), none, (.mov (.t 5))⟩,
    ⟨(some 47), none, (.callF 49 [(.t 45), (.t 46)])⟩,
    ⟨(some 44), none, (.mov (.t 47))⟩,
    ⟨(some 48), none, (.ext 0 (.t 44))⟩,
    ⟨(some 49), none, (.ext 1 (.t 44))⟩,
    ⟨(some 50), none, (.ext 2 (.t 44))⟩,
    ⟨(some 51), none, (.ext 3 (.t 44))⟩,
    ⟨(some 10), none, (.mov (.t 48))⟩,
    ⟨(some 11), none, (.mov (.t 49))⟩,
    ⟨(some 12), none, (.mov (.t 50))⟩,
    ⟨(some 13), none, (.mov (.t 51))⟩])
  (.seq (.seq (.ops [⟨(some 52), none, (.mov (.t 6))⟩,
    ⟨(some 53), none, (.bin .neq (.t 52) (.k (.int .i64 0)))⟩,
    ⟨(some 54), none, (.mov (.t 53))⟩,
    ⟨(some 55), (some (54, false)), (.mov (.t 9))⟩,
    ⟨(some 56), (some (54, false)), (.bin .neq (.t 55) (.k (.int .i64 0)))⟩,
    ⟨(some 57), none, (.pick (.t 54) (.k (.bool true)) (.t 56))⟩,
    ⟨(some 58), none, (.mov (.t 57))⟩,
    ⟨(some 59), (some (58, false)), (.mov (.t 13))⟩,
    ⟨(some 60), (some (58, false)), (.bin .neq (.t 59) (.k (.int .i64 0)))⟩,
    ⟨(some 61), none, (.pick (.t 58) (.k (.bool true)) (.t 60))⟩,
    ⟨(some 62), none, (.mov (.t 61))⟩,
    ⟨(some 63), (some (62, false)), (.mov (.t 12))⟩,
    ⟨(some 64), (some (62, false)), (.bin .neq (.t 63) (.k (.int .i64 0)))⟩,
    ⟨(some 65), none, (.pick (.t 62) (.k (.bool true)) (.t 64))⟩,
    ⟨(some 66), none, (.mov (.t 65))⟩,
    ⟨(some 67), (some (66, false)), (.mov (.t 5))⟩,
    ⟨(some 68), (some (66, false)), (.len false (.t 67))⟩,
    ⟨(some 69), (some (66, false)), (.flA 1 (.t 4))⟩,
    ⟨(some 70), (some (66, false)), (.ld 1 false (.t 69))⟩,
    ⟨(some 71), (some (66, false)), (.len false (.t 70))⟩,
    ⟨(some 72), (some (66, false)), (.bin .gtr (.t 68) (.t 71))⟩,
    ⟨(some 73), none, (.pick (.t 66) (.k (.bool true)) (.t 72))⟩,
    ⟨(some 74), none, (.mov (.t 73))⟩,
    ⟨(some 75), (some (74, false)), (.ld 2 true (.t 4))⟩,
    ⟨(some 76), (some (74, false)), (.mov (.t 5))⟩,
    ⟨(some 77), (some (74, false)), (.callF 50 [(.t 75), (.t 76)])⟩,
    ⟨(some 78), (some (74, false)), (.bin .neq (.t 77) (.k (.int .i64 0)))⟩,
    ⟨(some 79), none, (.pick (.t 74) (.k (.bool true)) (.t 78))⟩,
    ⟨(some 80), none, (.mov (.t 79))⟩,
    ⟨(some 81), (some (80, false)), (.mov (.t 8))⟩,
    ⟨(some 82), (some (80, false)), (.len false (.t 81))⟩,
    ⟨(some 83), (some (80, false)), (.mov (.t 5))⟩,
    ⟨(some 84), (some (80, false)), (.len false (.t 83))⟩,
    ⟨(some 85), (some (80, false)), (.bin .lss (.t 82) (.t 84))⟩,
    ⟨(some 86), none, (.pick (.t 80) (.k (.bool true)) (.t 85))⟩])
  (.cnd (.t 86)
    (.seq (.ops [⟨(some 2), none, (.mov (.k (.bool false)))⟩])
    .ret)
    .skip))
  (.seq (.ops [⟨(some 87), none, (.ld 2 true (.t 4))⟩,
    ⟨(some 88), none, (.mov (.t 5))⟩,
    ⟨(some 89), none, (.len false (.t 88))⟩,
    ⟨(some 90), none, (.callF 51 [(.t 87), (.t 89)])⟩,
    ⟨(some 14), none, (.mov (.t 90))⟩])
  (.seq (.seq (.ops [⟨(some 15), none, (.mov (.k (.int .i64 0)))⟩])
  (.blk 0 (.loop (.seq (.seq (.ops [⟨(some 91), none, (.mov (.t 15))⟩,
        ⟨(some 92), none, (.mov (.t 14))⟩,
        ⟨(some 93), none, (.len false (.t 92))⟩,
        ⟨(some 94), none, (.bin .lss (.t 91) (.t 93))⟩,
        ⟨(some 95), none, (.mov (.t 94))⟩,
        ⟨(some 96), (some (95, true)), (.mov (.t 14))⟩,
        ⟨(some 97), (some (95, true)), (.mov (.t 15))⟩,
        ⟨(some 98), (some (95, true)), (.ixA 1 (.t 96) (.t 97))⟩,
        ⟨(some 99), (some (95, true)), (.ld 1 false (.t 98))⟩,
        ⟨(some 100), (some (95, true)), (.mov (.t 5))⟩,
        ⟨(some 101), (some (95, true)), (.callF 40 [(.t 99), (.t 100)])⟩,
        ⟨(some 102), (some (95, true)), (.not (.t 101))⟩,
        ⟨(some 103), none, (.pick (.t 95) (.t 102) (.k (.bool false)))⟩])
      (.cnd (.t 103)
        .skip
        (.exit 0)))
      (.seq (.blk 1 (.seq (.ops [⟨(some 106), none, (.ld 2 true (.t 4))⟩,
          ⟨(some 107), none, (.mov (.t 14))⟩,
          ⟨(some 108), none, (.mov (.t 15))⟩,
          ⟨(some 109), none, (.ixA 1 (.t 107) (.t 108))⟩,
          ⟨(some 110), none, (.ld 1 false (.t 109))⟩,
          ⟨(some 111), none, (.callF 50 [(.t 106), (.t 110)])⟩,
          ⟨(some 112), none, (.bin .eql (.t 111) (.k (.int .i64 0)))⟩])
        (.cnd (.t 112)
          (.seq (.ops [⟨(some 2), none, (.mov (.k (.bool false)))⟩])
          .ret)
          .skip)))
      (.ops [⟨(some 104), none, (.mov (.t 15))⟩,
        ⟨(some 105), none, (.bin .add (.t 104) (.k (.int .i64 1)))⟩,
        ⟨(some 15), none, (.mov (.t 105))⟩]))))))
  (.seq (.seq (.ops [⟨(some 113), none, (.mov (.t 5))⟩,
    ⟨(some 114), none, (.len false (.t 113))⟩,
    ⟨(some 115), none, (.flA 1 (.t 4))⟩,
    ⟨(some 116), none, (.ld 1 false (.t 115))⟩,
    ⟨(some 117), none, (.len false (.t 116))⟩,
    ⟨(some 118), none, (.bin .eql (.t 114) (.t 117))⟩])
  (.cnd (.t 118)
    (.seq (.ops [⟨(some 119), none, (.callF 16 [])⟩,
      ⟨(some 2), none, (.mov (.t 119))⟩])
    .ret)
    .skip))
  (.seq (.ops [⟨(some 120), none, (.ld 2 true (.t 4))⟩,
    ⟨(some 121), none, (.mov (.t 5))⟩,
    ⟨(some 122), none, (.len false (.t 121))⟩,
    ⟨(some 123), none, (.bin .add (.t 122) (.k (.int .i64 1)))⟩,
    ⟨(some 124), none, (.callF 51 [(.t 120), (.t 123)])⟩,
    ⟨(some 14), none, (.mov (.t 124))⟩])
  (.seq (.seq (.ops [⟨(some 16), none, (.mov (.k (.int .i64 0)))⟩])
  (.blk 2 (.loop (.seq (.seq (.ops [⟨(some 125), none, (.mov (.t 16))⟩,
        ⟨(some 126), none, (.mov (.t 14))⟩,
        ⟨(some 127), none, (.len false (.t 126))⟩,
        ⟨(some 128), none, (.bin .lss (.t 125) (.t 127))⟩])
      (.cnd (.t 128)
        .skip
        (.exit 2)))
      (.seq (.blk 3 (.seq (.ops [⟨(some 131), none, (.ld 2 true (.t 4))⟩,
          ⟨(some 132), none, (.mov (.t 14))⟩,
          ⟨(some 133), none, (.mov (.t 16))⟩,
          ⟨(some 134), none, (.ixA 1 (.t 132) (.t 133))⟩,
          ⟨(some 135), none, (.ld 1 false (.t 134))⟩,
          ⟨(some 136), none, (.callF 50 [(.t 131), (.t 135)])⟩,
          ⟨(some 137), none, (.bin .eql (.t 136) (.k (.int .i64 0)))⟩])
        (.cnd (.t 137)
          (.seq (.ops [⟨(some 2), none, (.mov (.k (.bool false)))⟩])
          .ret)
          .skip)))
      (.ops [⟨(some 129), none, (.mov (.t 16))⟩,
        ⟨(some 130), none, (.bin .add (.t 129) (.k (.int .i64 1)))⟩,
        ⟨(some 16), none, (.mov (.t 130))⟩]))))))
  (.seq (.ops [⟨(some 138), none, (.callF 16 [])⟩,
    ⟨(some 2), none, (.mov (.t 138))⟩])
  .ret)))))))))))))))⟩
def hint7 (P : Program) : Hint := { site := [], nils := [], frz := [(39, 29)], mve := [], wr := [] }
theorem plan_ne {s : Sea} (he : seaE s = 0) (hg : s.gs ≠ []) : planF s ≠ [] := by
  intro h
  have hc := combF_nn he
  have hl : 1 ≤ s.gs.length := List.length_pos_iff.2 hg
  have hm : ∀ k, metN s.gs [] k = 0 := fun k => by cases s.gs <;> rfl
  have := (plan_first he).2.2 1 hl [0] (by rw [rgsK, List.mem_flatMap]; exact ⟨0, List.mem_range.2 (by decide), by rw [rgsK]; simp⟩) ⟨by show max (0:Int) (0 + 1) ≤ _; omega, by
    show rpS s ([] ++ [0]) = 0
    rw [rp_snoc]
    show (0 : Int) + againN s.gs [] 0 = 0
    unfold againN
    rw [List.filter_eq_nil_iff.2 fun g _ => by rw [hm]; simp]; rfl⟩
  rw [h] at this
  simp at this
theorem seaE_set {a : Int} {ss : List Int} {gs : List (List Int)} {k : Nat} {v : Int} (he : seaE ⟨a :: ss, gs⟩ = 0) (hv : 1 ≤ v ∧ v ≤ 6) : seaE ⟨(a :: ss).set k v, gs⟩ = 0 := by
  have ok := okS_of he
  have hg := gathsE_of9 he
  have h4 := ok.s4
  have h9 := ok.g9
  have h6 := ok.s6
  have hl : ((a :: ss).set k v).length = (a :: ss).length := List.length_set
  dsimp only at h4 h9 h6
  unfold seaE
  rw [if_neg (fun h => by have := congrArg List.length h; rw [hl] at this; simp at this), if_neg (by show ¬ 4 < ((a :: ss).set k v).length; rw [hl]; omega), if_pos, if_neg (by show ¬ 9 < gs.length; omega)]
  · exact hg
  · show sortsB ((a :: ss).set k v) = true
    refine List.all_eq_true.2 fun y hy => inB_t.2 ?_
    rcases List.mem_or_eq_of_mem_set hy with h | h
    · exact h6 y h
    · rw [h]; exact hv
theorem prodR_set : ∀ {l : List Int} {k : Nat}, (∀ x ∈ l, 1 ≤ x ∧ x ≤ 6) → prodR l ≤ prodR (l.set k (l.getD k 0 + 1))
  | [], k, _ => by simp
  | x :: l, 0, h => by
    have h1 := prodR_pos (l := l) fun y hy => h y (by simp [hy])
    rw [List.set_cons_zero, prodR, prodR, List.getD_cons_zero, Int.mul_add]
    omega
  | x :: l, k + 1, h => by
    have ih := prodR_set (l := l) (k := k) fun y hy => h y (by simp [hy])
    have h0 := h x (by simp)
    rw [List.set_cons_succ, prodR, prodR, List.getD_cons_succ]
    exact Int.mul_le_mul_of_nonneg_right ih (show (0 : Int) ≤ x by omega)
theorem getD_memI {l : List Int} {k : Nat} (h : k < l.length) : l.getD k 0 ∈ l := by
  rw [List.getD_eq_getElem?_getD, List.getElem?_eq_getElem h]; exact List.getElem_mem _
theorem eqNE_c : Fn0 Try.prog 40 [.nsl, .slc 1 (iR []) .non] (fun v => v = .bool true) :=
  RawC.weak (fun _ _ hr => SubL.rel (.cons Sub.nil (.cons (Sub.refl _) .nil)) hr) (by have h := eq_c [] [] (by decide); rw [decide_eq_true rfl] at h; exact h)
theorem fresh_c (nums : List Int) (hn : nums.length < 2 ^ 62) : Fn0 Try.prog 7 [.slc 1 (iR nums) .non] (fun v => v = .bool true) := by
  refine RawC.walk (H := hint7 Try.prog) ir7 Try.func7 rfl rfl rfl ?_
  unfold ir7
  repeat' (first
    | with_reducible (first | refine Rd.p ?_ | refine w_alt ?_ ?_ | refine zE ?_ | refine zE0 ?_)
    | with_reducible (first | refine zI fun y hy => ?_ | refine zL ?_ | refine zS ?_ | refine zA fun _ => ?_ | refine zV ?_ | refine zC ?_ | refine zG ?_ | refine zU ?_ | refine zG0 ?_ | refine zU0 ?_ | refine zF ?_)
    | ((with_reducible refine acall_id ?_); refine ACall.liftS (boxOf_s nums hn) [] (some 6) rfl rfl rfl trivial (fun _ => rfl) ?_; rintro ⟨gb, w⟩ _ rfl)
    | ((with_reducible refine acall_id ?_); refine ACall.box (seasonOf3_c _ _ 6 (by omega)) rfl rfl rfl ?_; rintro _ _ ⟨s, rfl, hE, hgk, hs3⟩)
    | with_reducible (first | refine zX ?_ | refine zD fun _ => ?_ | refine zD0 ?_ | refine zN ?_ | refine zF0 ?_ | refine zX0 ?_ | refine z1 ?_ | refine z2 ?_ | refine z3 ?_ | refine z4 ?_ | refine z5 ?_ | refine z6 ?_ | refine z7 ?_ | refine z8 ?_ | refine y1 ?_ | refine y2 ?_ | refine y3 ?_ | refine y4 ?_ | refine y5 ?_ | refine y6 ?_ | refine y7 ?_ | refine y8 ?_ | refine Rt.p (fun _ => ?_) fun _ => ?_)
    | ((with_reducible apply w_ixM); (focus exact rfl); (focus exact rfl); case' hk => intro y hy) | ((with_reducible (first | apply w_val | apply q_ends)); (focus exact rfl)))
  have ok := okS_of hE
  have h4 := ok.s4
  have h6 := ok.s6
  have hgk2 : (s.gs.length : Int) ≤ 6 := hgk
  obtain ⟨ss, gs⟩ := s
  cases ss with
  | nil => unfold seaE at hE; rw [if_pos rfl] at hE; exact absurd hE (by decide)
  | cons a ss =>
  rename_i g4
  have hG3 : ∀ l ∈ gs, l.length < 1000 := fun l hl => by have := ok.g12 l hl; omega
  dsimp only at h4 h6 hgk hgk2 hs3
  have hlss : (a :: ss).length = ss.length + 1 := rfl
  have hP := Plan_w ⟨a :: ss, gs⟩ (by show (a :: ss).length < 1000; omega) (by show gs.length < 1000; omega) hG3
  have hPf := plan_first hE
  have hpne := plan_ne hE
  have hmoreP := fun (t : Sea) (ht : seaE t = 0) => plan_more (s := ⟨a :: ss, gs⟩) (t := t) hE ht
  rw [hE] at hP
  obtain ⟨pl, hpl⟩ : ∃ pl, pl = planF ⟨a :: ss, gs⟩ := ⟨_, rfl⟩
  rw [← hpl] at hP hPf hpne hmoreP
  repeat' (first
    | with_reducible (first | refine Rd.p ?_ | refine w_alt ?_ ?_ | refine zE ?_ | refine zE0 ?_)
    | (first | refine w_ldI (xs := a :: ss) rfl (by show (g27, Res.row (renL _ ((a :: ss).map (AV.int .i64)))) = _; rw [renL_int]) (by omega) ?_ | refine w_stI (xs := a :: ss) rfl rfl (by show (g27, Res.row (renL _ ((a :: ss).map (AV.int .i64)))) = _; rw [renL_int]) (by omega) ?_)
    | with_reducible (first | refine zI fun y hy => ?_ | refine zL ?_ | refine zS ?_ | refine zA fun _ => ?_ | refine zV ?_ | refine zC ?_ | refine zG ?_ | refine zU ?_ | refine zG0 ?_ | refine zU0 ?_ | refine zF ?_)
    | ((with_reducible refine acall_id ?_); refine ACall.val hP rfl rfl ?_)
    | ((with_reducible refine acall_id ?_); refine ACall.liftS (ownSeasonW_c a ss gs (by omega) (by omega) hG3) [] (some 5) rfl rfl rfl trivial (fun _ => rfl) ?_; rintro g27 _ rfl)
    | ((with_reducible refine acall_id ?_); refine ACall.box (upp_c _ _ ((a :: ss).length : Int) (by omega) (by omega)) rfl rfl rfl ?_; rintro _ _ ⟨k, rfl, hk1, hk2⟩)
    | with_reducible (first | refine zX ?_ | refine zD fun _ => ?_ | refine zD0 ?_ | refine zN ?_ | refine zF0 ?_ | refine zX0 ?_ | refine z1 ?_ | refine z2 ?_ | refine z3 ?_ | refine z4 ?_ | refine z5 ?_ | refine z6 ?_ | refine z7 ?_ | refine z8 ?_ | refine y1 ?_ | refine y2 ?_ | refine y3 ?_ | refine y4 ?_ | refine y5 ?_ | refine y6 ?_ | refine y7 ?_ | refine y8 ?_ | refine Rt.p (fun _ => ?_) fun _ => ?_)
    | ((with_reducible apply w_ixM); (focus exact rfl); (focus exact rfl); case' hk => intro y hy) | ((with_reducible (first | apply w_val | apply q_ends)); (focus exact rfl)))
  · have hm := getD_memI (l := a :: ss) (k := k.toNat * 1) (by omega)
    have h1 := hs3 _ hm
    have h2 := h6 _ hm
    exact ⟨trivial, by unfold inI; omega⟩
  rename_i g7 _
  obtain ⟨K, hK⟩ : ∃ K, K = k.toNat * 1 := ⟨_, rfl⟩
  have hKl : K < (a :: ss).length := by omega
  obtain ⟨more, hmore⟩ : ∃ more : Sea, more = ⟨(a :: ss).set K ((a :: ss).getD K 0 + 1), gs⟩ := ⟨_, rfl⟩
  have hgm := getD_memI hKl
  have hEm : seaE more = 0 := by rw [hmore]; exact seaE_set hE (by have := h6 _ hgm; have := hs3 _ hgm; omega)
  have hcm : combF (a :: ss) ≤ combF more.ss := by rw [hmore, combF_prod, combF_prod]; exact prodR_set h6
  have hmg : more.gs = gs := by rw [hmore]
  have hpm := hmoreP more hEm hmg hcm
  have hml : more.ss.length = (a :: ss).length := by rw [hmore]; exact List.length_set
  have hP2 := Plan_w more (by omega) (by rw [hmg]; omega) (by rw [hmg]; exact hG3)
  rw [hEm] at hP2
  refine w_frzIS [(4, .ref 4 g4 0), (5, .slc 1 (iR pl) .non), (6, .int .i64 0), (7, .ref 7 g7 0)] [(4, (g4, .row (seC ⟨a :: ss, gs⟩))), (7, (g7, .row (seC more)))] (xs := (a :: ss).set K ((a :: ss).getD K 0 + 1)) rfl (by rw [hK]; rfl) List.length_set ⟨rfl, rfl, rfl, rfl, trivial⟩ ⟨frzS_at rfl (by decide) rfl, frzS_at rfl (by decide) ?_, trivial⟩ ?_
  · show frzL 27 g27 _ [.msl 27 g27 (a :: ss).length 1, .slc 1 (llR gs) .non] = _
    simp only [frzL, frzA_msl (xs := (a :: ss).set K ((a :: ss).getD K 0 + 1)) (n := (a :: ss).length) (i := 27) (g := g27) List.length_set]
    rw [hmore]; rfl
  intro e σ
  clear hmore hmoreP hK
  have hok : okQ ⟨a :: ss, gs⟩ pl := hPf.1.mem.2
  have hpin := rgsK_top hPf.1.mem.1
  have hpl2 : pl.length ≤ gs.length := hPf.2.1
  have hpl3 : (pl.length : Int) ≤ gs.length := by omega
  have hRv := repV_rp (s := ⟨a :: ss, gs⟩) (p := pl) hE hpl2 (fun x hx => by have h1 := hpin.2 x hx; have h2 : usedF pl ≤ combF (a :: ss) := hok.1; exact ⟨h1.1, by show x < combF (a :: ss); omega⟩)
  have hR := Repeats_s ⟨a :: ss, gs⟩ pl _ (.inr rfl) (by show (a :: ss).length < 1000; omega) (by show gs.length < 1000; omega) hG3 (by omega)
  rw [hRv.1, hRv.2, hok.2] at hR
  have hL := repL_w ⟨a :: ss, gs⟩ pl hE hpl2
  rw [hok.2] at hL
  clear hRv
  generalize (repV ⟨a :: ss, gs⟩ pl).1 = rv1 at *
  generalize (repV ⟨a :: ss, gs⟩ pl).2.1 = rv2 at *
  have hlen2 : ¬ (planF more).length < pl.length := by omega
  generalize planF more = pm at *
  by_cases hg0 : gs = []
  · subst hg0
    have hp0 : pl = [] := List.length_eq_zero_iff.1 (by simpa using hpl2)
    subst hp0
    have h00 : ([] : List Int).length = 0 := rfl
    have h01 : ([] : List (List Int)).length = 0 := rfl
    have hp0 := plans0_s ⟨a :: ss, []⟩
    have hE0 := eqNE_c
    repeat' (first
      | with_reducible (first | refine Rd.p ?_ | refine w_alt ?_ ?_ | refine zE ?_ | refine zE0 ?_)
      | with_reducible (first | refine zI fun y hy => ?_ | refine zL ?_ | refine zS ?_ | refine zA fun _ => ?_ | refine zV ?_ | refine zC ?_ | refine zG ?_ | refine zU ?_ | refine zG0 ?_ | refine zU0 ?_ | refine zF ?_)
      | ((with_reducible refine acall_id ?_); refine ACall.val hP2 rfl rfl ?_)
      | ((with_reducible refine acall_id ?_); refine ACall.val hR rfl rfl ?_)
      | ((with_reducible refine acall_id ?_); refine ACall.val hL rfl rfl ?_)
      | ((with_reducible refine acall_id ?_); refine ACall.val hp0 rfl rfl ?_)
      | ((with_reducible refine acall_id ?_); refine ACall.val hE0 rfl rfl ?_)
      | with_reducible (first | refine zX ?_ | refine zD fun _ => ?_ | refine zD0 ?_ | refine zN ?_ | refine zF0 ?_ | refine zX0 ?_ | refine z1 ?_ | refine z2 ?_ | refine z3 ?_ | refine z4 ?_ | refine z5 ?_ | refine z6 ?_ | refine z7 ?_ | refine z8 ?_ | refine y1 ?_ | refine y2 ?_ | refine y3 ?_ | refine y4 ?_ | refine y5 ?_ | refine y6 ?_ | refine y7 ?_ | refine y8 ?_ | refine Rt.p (fun _ => ?_) fun _ => ?_)
      | ((with_reducible apply w_ixM); (focus exact rfl); (focus exact rfl); case' hk => intro y hy) | ((with_reducible (first | apply w_val | apply q_ends)); (focus exact rfl)))
    refine w_loopK [4, 5, 14] [4] (fun _ : Unit => True) (fun _ => 1) (fun _ => [(15, .int .i64 0)]) (fun _ => []) () trivial ⟨rfl, trivial⟩ trivial ?_
    rintro _ _ e σ
    repeat' (first
      | with_reducible (first | refine Rd.p ?_ | refine w_alt ?_ ?_ | refine zE ?_ | refine zE0 ?_)
      | with_reducible (first | refine zI fun y hy => ?_ | refine zL ?_ | refine zS ?_ | refine zA fun _ => ?_ | refine zV ?_ | refine zC ?_ | refine zG ?_ | refine zU ?_ | refine zG0 ?_ | refine zU0 ?_ | refine zF ?_)
      | ((with_reducible refine acall_id ?_); refine ACall.val hE0 rfl rfl ?_)
      | ((with_reducible refine acall_id ?_); refine ACall.val wake_s rfl rfl ?_)
      | with_reducible (first | refine zX ?_ | refine zD fun _ => ?_ | refine zD0 ?_ | refine zN ?_ | refine zF0 ?_ | refine zX0 ?_ | refine z1 ?_ | refine z2 ?_ | refine z3 ?_ | refine z4 ?_ | refine z5 ?_ | refine z6 ?_ | refine z7 ?_ | refine z8 ?_ | refine y1 ?_ | refine y2 ?_ | refine y3 ?_ | refine y4 ?_ | refine y5 ?_ | refine y6 ?_ | refine y7 ?_ | refine y8 ?_ | refine Rt.p (fun _ => ?_) fun _ => ?_)
      | ((with_reducible apply w_ixM); (focus exact rfl); (focus exact rfl); case' hk => intro y hy) | ((with_reducible (first | apply w_val | apply q_ends)); (focus exact rfl)))
    all_goals first
      | (exfalso; omega)
      | (exfalso; rename_i hz; exact hz rfl)
      | rfl
  · have hpn := hpne hg0
    have hp1 : 1 ≤ pl.length := List.length_pos_iff.2 hpn
    obtain ⟨A, B, hAB, _, hA⟩ := frst_filter (fun q => decide (usedF q ≤ combF (a :: ss))) hPf.1 (fun q hq => decide_eq_true hq.1)
    obtain ⟨L, hL0⟩ : ∃ L, L = plansL ⟨a :: ss, gs⟩ pl.length := ⟨_, rfl⟩
    rw [show (rgsK pl.length []).filter (fun q => decide (usedF q ≤ combF (a :: ss))) = L from hL0.symm] at hAB
    have hPl := plans_s ⟨a :: ss, gs⟩ hE pl.length (by omega)
    rw [← hL0] at hPl
    have hcnt := rgs_cnt pl.length [] 0 (by show (0 : Int) ≤ _; omega) (by omega)
    have hpw : 10 ^ pl.length ≤ 10 ^ 9 := Nat.pow_le_pow_right (by omega) (by omega)
    have hLl : L.length ≤ 10 ^ 9 := by
      rw [hL0]
      exact Nat.le_trans (List.length_filter_le _ _) (by omega)
    have hLm : ∀ q ∈ L, q.length = pl.length ∧ usedF q ≤ combF (a :: ss) := fun q hq => by
      rw [hL0] at hq
      have := plansL_mem.1 hq
      exact ⟨(rgsK_top this.1).1, this.2⟩
    have hAn : ∀ q ∈ A, rpS ⟨a :: ss, gs⟩ q ≠ 0 ∧ q ≠ pl := fun q hq => by
      have h1 := hA q hq
      have h3 := (hLm q (by rw [hAB]; simp [hq])).2
      exact ⟨fun h => h1 ⟨h3, h⟩, fun h => h1 (h ▸ hok)⟩
    have hAl := congrArg List.length hAB
    rw [List.length_append, List.length_cons] at hAl
    repeat' (first
      | with_reducible (first | refine Rd.p ?_ | refine w_alt ?_ ?_ | refine zE ?_ | refine zE0 ?_)
      | with_reducible (first | refine zI fun y hy => ?_ | refine zL ?_ | refine zS ?_ | refine zA fun _ => ?_ | refine zV ?_ | refine zC ?_ | refine zG ?_ | refine zU ?_ | refine zG0 ?_ | refine zU0 ?_ | refine zF ?_)
      | ((with_reducible refine acall_id ?_); refine ACall.val hP2 rfl rfl ?_)
      | ((with_reducible refine acall_id ?_); refine ACall.val hR rfl rfl ?_)
      | ((with_reducible refine acall_id ?_); refine ACall.val hL rfl rfl ?_)
      | ((with_reducible refine acall_id ?_); refine ACall.val hPl rfl rfl ?_)
      | with_reducible (first | refine zX ?_ | refine zD fun _ => ?_ | refine zD0 ?_ | refine zN ?_ | refine zF0 ?_ | refine zX0 ?_ | refine z1 ?_ | refine z2 ?_ | refine z3 ?_ | refine z4 ?_ | refine z5 ?_ | refine z6 ?_ | refine z7 ?_ | refine z8 ?_ | refine y1 ?_ | refine y2 ?_ | refine y3 ?_ | refine y4 ?_ | refine y5 ?_ | refine y6 ?_ | refine y7 ?_ | refine y8 ?_ | refine Rt.p (fun _ => ?_) fun _ => ?_)
      | ((with_reducible apply w_ixM); (focus exact rfl); (focus exact rfl); case' hk => intro y hy) | ((with_reducible (first | apply w_val | apply q_ends)); (focus exact rfl)))
    refine w_loopK [4, 5, 14] [4] (fun x : List (List Int) × List (List Int) => A = x.1 ++ x.2) (fun x => x.2.length) (fun x => [(15, .int .i64 x.1.length)]) (fun _ => []) ([], A) rfl ⟨rfl, trivial⟩ trivial ?_
    rintro ⟨A1, A2⟩ hA12 e σ
    dsimp only at hA12 ⊢
    have hl1 := congrArg List.length hA12
    rw [List.length_append] at hl1
    rcases A2 with _ | ⟨q, A2⟩
    · simp only [List.length_nil] at hl1
      rw [List.append_nil] at hA12
      have hgp : L[A1.length]? = some pl := by rw [hAB, hA12]; simp
      have hEq := eq_c pl pl (by omega)
      rw [decide_eq_true rfl] at hEq
      by_cases hfull : pl.length = gs.length
      · have hfull2 : (pl.length : Int) = gs.length := by omega
        repeat' (first
          | with_reducible (first | refine Rd.p ?_ | refine w_alt ?_ ?_ | refine zE ?_ | refine zE0 ?_)
          | (refine w_ixE (f := fun l => [AV.slc 1 (iR l) .non]) hgp rfl rfl ?_)
          | with_reducible (first | refine zI fun y hy => ?_ | refine zL ?_ | refine zS ?_ | refine zA fun _ => ?_ | refine zV ?_ | refine zC ?_ | refine zG ?_ | refine zU ?_ | refine zG0 ?_ | refine zU0 ?_ | refine zF ?_)
          | ((with_reducible refine acall_id ?_); refine ACall.val hEq rfl rfl ?_)
          | ((with_reducible refine acall_id ?_); refine ACall.val wake_s rfl rfl ?_)
          | with_reducible (first | refine zX ?_ | refine zD fun _ => ?_ | refine zD0 ?_ | refine zN ?_ | refine zF0 ?_ | refine zX0 ?_ | refine z1 ?_ | refine z2 ?_ | refine z3 ?_ | refine z4 ?_ | refine z5 ?_ | refine z6 ?_ | refine z7 ?_ | refine z8 ?_ | refine y1 ?_ | refine y2 ?_ | refine y3 ?_ | refine y4 ?_ | refine y5 ?_ | refine y6 ?_ | refine y7 ?_ | refine y8 ?_ | refine Rt.p (fun _ => ?_) fun _ => ?_)
          | ((with_reducible apply w_ixM); (focus exact rfl); (focus exact rfl); case' hk => intro y hy) | ((with_reducible (first | apply w_val | apply q_ends)); (focus exact rfl)))
        all_goals first
          | (exfalso; omega)
          | (rename_i hz; exact absurd (congrArg Int.ofNat hfull) hz)
          | rfl
      · have hPl2 := plans_s ⟨a :: ss, gs⟩ hE (pl.length + 1) (by omega)
        rw [show ((pl.length + 1 : Nat) : Int) = (pl.length : Int) + 1 from rfl] at hPl2
        have hne2 : ∀ q ∈ plansL ⟨a :: ss, gs⟩ (pl.length + 1), q.length = pl.length + 1 ∧ rpS ⟨a :: ss, gs⟩ q ≠ 0 := fun q hq => by
          have h1 := plansL_mem.1 hq
          refine ⟨(rgsK_top h1.1).1, fun h => ?_⟩
          have := hPf.2.2 (pl.length + 1) (by show pl.length + 1 ≤ gs.length; omega) q h1.1 ⟨h1.2, h⟩
          omega
        have hcnt2 := rgs_cnt (pl.length + 1) [] 0 (by show (0 : Int) ≤ _; omega) (by omega)
        have hpw2 : 10 ^ (pl.length + 1) ≤ 10 ^ 9 := Nat.pow_le_pow_right (by omega) (by omega)
        have hL2l : (plansL ⟨a :: ss, gs⟩ (pl.length + 1)).length ≤ 10 ^ 9 := Nat.le_trans (List.length_filter_le _ _) (by omega)
        generalize plansL ⟨a :: ss, gs⟩ (pl.length + 1) = L2 at *
        repeat' (first
          | with_reducible (first | refine Rd.p ?_ | refine w_alt ?_ ?_ | refine zE ?_ | refine zE0 ?_)
          | (refine w_ixE (f := fun l => [AV.slc 1 (iR l) .non]) hgp rfl rfl ?_)
          | with_reducible (first | refine zI fun y hy => ?_ | refine zL ?_ | refine zS ?_ | refine zA fun _ => ?_ | refine zV ?_ | refine zC ?_ | refine zG ?_ | refine zU ?_ | refine zG0 ?_ | refine zU0 ?_ | refine zF ?_)
          | ((with_reducible refine acall_id ?_); refine ACall.val hEq rfl rfl ?_)
          | ((with_reducible refine acall_id ?_); refine ACall.val hPl2 rfl rfl ?_)
          | with_reducible (first | refine zX ?_ | refine zD fun _ => ?_ | refine zD0 ?_ | refine zN ?_ | refine zF0 ?_ | refine zX0 ?_ | refine z1 ?_ | refine z2 ?_ | refine z3 ?_ | refine z4 ?_ | refine z5 ?_ | refine z6 ?_ | refine z7 ?_ | refine z8 ?_ | refine y1 ?_ | refine y2 ?_ | refine y3 ?_ | refine y4 ?_ | refine y5 ?_ | refine y6 ?_ | refine y7 ?_ | refine y8 ?_ | refine Rt.p (fun _ => ?_) fun _ => ?_)
          | ((with_reducible apply w_ixM); (focus exact rfl); (focus exact rfl); case' hk => intro y hy) | ((with_reducible (first | apply w_val | apply q_ends)); (focus exact rfl)))
        all_goals try (exfalso; omega)
        all_goals try (rename_i hz; exact absurd (Int.ofNat.inj hz) hfull)
        refine w_loopK [4, 14] [4] (fun x : List (List Int) × List (List Int) => L2 = x.1 ++ x.2) (fun x => x.2.length) (fun x => [(16, .int .i64 x.1.length)]) (fun _ => []) ([], L2) rfl ⟨rfl, trivial⟩ trivial ?_
        rintro ⟨p1, p2⟩ hp12 e σ
        dsimp only at hp12 ⊢
        have hl2 := congrArg List.length hp12
        rw [List.length_append] at hl2
        rcases p2 with _ | ⟨q, p2⟩
        · simp only [List.length_nil] at hl2
          repeat' (first
            | with_reducible (first | refine Rd.p ?_ | refine w_alt ?_ ?_ | refine zE ?_ | refine zE0 ?_)
            | with_reducible (first | refine zI fun y hy => ?_ | refine zL ?_ | refine zS ?_ | refine zA fun _ => ?_ | refine zV ?_ | refine zC ?_ | refine zG ?_ | refine zU ?_ | refine zG0 ?_ | refine zU0 ?_ | refine zF ?_)
            | ((with_reducible refine acall_id ?_); refine ACall.val wake_s rfl rfl ?_)
            | with_reducible (first | refine zX ?_ | refine zD fun _ => ?_ | refine zD0 ?_ | refine zN ?_ | refine zF0 ?_ | refine zX0 ?_ | refine z1 ?_ | refine z2 ?_ | refine z3 ?_ | refine z4 ?_ | refine z5 ?_ | refine z6 ?_ | refine z7 ?_ | refine z8 ?_ | refine y1 ?_ | refine y2 ?_ | refine y3 ?_ | refine y4 ?_ | refine y5 ?_ | refine y6 ?_ | refine y7 ?_ | refine y8 ?_ | refine Rt.p (fun _ => ?_) fun _ => ?_)
            | ((with_reducible apply w_ixM); (focus exact rfl); (focus exact rfl); case' hk => intro y hy) | ((with_reducible (first | apply w_val | apply q_ends)); (focus exact rfl)))
          all_goals first
            | (exfalso; omega)
            | rfl
        · simp only [List.length_cons] at hl2
          have hq := hne2 q (by rw [hp12]; simp)
          have hgq : L2[p1.length]? = some q := by rw [hp12]; simp
          have hLq := repL_w ⟨a :: ss, gs⟩ q hE (by show q.length ≤ gs.length; omega)
          have hr := hq.2
          generalize rpS ⟨a :: ss, gs⟩ q = r at hLq hr
          repeat' (first
            | with_reducible (first | refine Rd.p ?_ | refine w_alt ?_ ?_ | refine zE ?_ | refine zE0 ?_)
            | (refine w_ixE (f := fun l => [AV.slc 1 (iR l) .non]) hgq rfl rfl ?_)
            | with_reducible (first | refine zI fun y hy => ?_ | refine zL ?_ | refine zS ?_ | refine zA fun _ => ?_ | refine zV ?_ | refine zC ?_ | refine zG ?_ | refine zU ?_ | refine zG0 ?_ | refine zU0 ?_ | refine zF ?_)
            | ((with_reducible refine acall_id ?_); refine ACall.val hLq rfl rfl ?_)
            | with_reducible (first | refine zX ?_ | refine zD fun _ => ?_ | refine zD0 ?_ | refine zN ?_ | refine zF0 ?_ | refine zX0 ?_ | refine z1 ?_ | refine z2 ?_ | refine z3 ?_ | refine z4 ?_ | refine z5 ?_ | refine z6 ?_ | refine z7 ?_ | refine z8 ?_ | refine y1 ?_ | refine y2 ?_ | refine y3 ?_ | refine y4 ?_ | refine y5 ?_ | refine y6 ?_ | refine y7 ?_ | refine y8 ?_ | refine Rt.p (fun _ => ?_) fun _ => ?_)
            | ((with_reducible apply w_ixM); (focus exact rfl); (focus exact rfl); case' hk => intro y hy) | ((with_reducible (first | apply w_val | apply q_ends)); (focus exact rfl)))
          all_goals first
            | (exfalso; omega)
            | (refine q_loop (p1 ++ [q], p2) (by show L2 = _; rw [hp12]; simp) (by simp) (slots_cons (by show AV.int .i64 _ = AV.int .i64 _; refine int_eq ?_; simp) slots_nil) trivial (by repeat' (first | exact kept_nil | apply kept_cons | rfl)) (by repeat' (first | exact kept_nil | apply kept_cons | rfl)))
    · simp only [List.length_cons] at hl1
      have hgq : L[A1.length]? = some q := by rw [hAB, hA12]; simp
      have hqm : q ∈ A := by rw [hA12]; simp
      have hql := (hLm q (by rw [hAB]; simp [hqm])).1
      have hEq := eq_c q pl (by omega)
      rw [decide_eq_false (hAn q hqm).2] at hEq
      have hLq := repL_w ⟨a :: ss, gs⟩ q hE (by show q.length ≤ gs.length; omega)
      have hr := (hAn q hqm).1
      generalize rpS ⟨a :: ss, gs⟩ q = r at hLq hr
      repeat' (first
        | with_reducible (first | refine Rd.p ?_ | refine w_alt ?_ ?_ | refine zE ?_ | refine zE0 ?_)
        | (refine w_ixE (f := fun l => [AV.slc 1 (iR l) .non]) hgq rfl rfl ?_)
        | with_reducible (first | refine zI fun y hy => ?_ | refine zL ?_ | refine zS ?_ | refine zA fun _ => ?_ | refine zV ?_ | refine zC ?_ | refine zG ?_ | refine zU ?_ | refine zG0 ?_ | refine zU0 ?_ | refine zF ?_)
        | ((with_reducible refine acall_id ?_); refine ACall.val hEq rfl rfl ?_)
        | ((with_reducible refine acall_id ?_); refine ACall.val hLq rfl rfl ?_)
        | with_reducible (first | refine zX ?_ | refine zD fun _ => ?_ | refine zD0 ?_ | refine zN ?_ | refine zF0 ?_ | refine zX0 ?_ | refine z1 ?_ | refine z2 ?_ | refine z3 ?_ | refine z4 ?_ | refine z5 ?_ | refine z6 ?_ | refine z7 ?_ | refine z8 ?_ | refine y1 ?_ | refine y2 ?_ | refine y3 ?_ | refine y4 ?_ | refine y5 ?_ | refine y6 ?_ | refine y7 ?_ | refine y8 ?_ | refine Rt.p (fun _ => ?_) fun _ => ?_)
        | ((with_reducible apply w_ixM); (focus exact rfl); (focus exact rfl); case' hk => intro y hy) | ((with_reducible (first | apply w_val | apply q_ends)); (focus exact rfl)))
      all_goals first
        | (exfalso; omega)
        | (refine q_loop (A1 ++ [q], A2) (by show A = _; rw [hA12]; simp) (by simp) (slots_cons (by show AV.int .i64 _ = AV.int .i64 _; refine int_eq ?_; simp) slots_nil) trivial (by repeat' (first | exact kept_nil | apply kept_cons | rfl)) (by repeat' (first | exact kept_nil | apply kept_cons | rfl)))
end Go.Abs
