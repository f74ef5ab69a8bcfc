/- A part of the proofs of the laws of this seat: contracts of the functions that they reach, each proved of the program's form in Lean. No condition beyond those that each contract names. -/
import Derived.Test.YtcgcciegekaliaaB0
import Derived.Test.YtcgcciegekaliaaB2
import Derived.Test.YtcgcciegekaliaaB3
import Derived.Test.YtcgcciegekaliaaB6
import Derived.Test.YtcgcciegekaliaaB7
import Derived.Test.YtcgcciegekaliaaB8
import Derived.Test.YtcgcciegekaliaaB9
import Derived.Test.YtcgcciegekaliaaB10
import Derived.Test.YtcgcciegekaliaaB11
import Derived.Test.YtcgcciegekaliaaB12
import Derived.Test.YtcgcciegekaliaaB16
import Derived.Test.YtcgcciegekaliaaB20
import Derived.Test.YtcgcciegekaliaaB34a
import Derived.Test.YtcgcciegekaliaaB37
import Derived.Test.YtcgcciegekaliaaB38
import Derived.Test.YtcgcciegekaliaaB41
import Derived.Test.YtcgcciegekaliaaB41a
import Derived.Test.YtcgcciegekaliaaB47
import Derived.Test.YtcgcciegekaliaaB48
set_option linter.unusedVariables false
set_option linter.unusedSimpArgs false
set_option maxRecDepth 20000
set_option maxHeartbeats 4000000
/-! ### Rules that exclude each other: the program -/
namespace Go.Abs
open Go.Proofs
/-- aloeswood/seat.Conflict -/
def ir53 : IFn :=
  ⟨63, [(2, some (1, false)), (3, some (1, false))], (.seq (.ops [⟨(some 1), none, (.box 2 (.t 0))⟩,
    ⟨(some 2), none, (.new [.nsl])⟩,
    ⟨(some 3), none, (.new [(.int .i64 0)])⟩])
  (.seq (.seq (.ops [⟨(some 13), none, (.ld 2 true (.t 1))⟩,
    ⟨(some 14), none, (.callF 39 [(.t 13)])⟩,
    ⟨(some 4), none, (.mov (.t 14))⟩])
  (.seq (.ops [⟨(some 15), none, (.mov (.t 4))⟩,
    ⟨(some 16), none, (.bin .neq (.t 15) (.k (.int .i64 0)))⟩])
  (.cnd (.t 16)
    (.seq (.ops [⟨(some 17), none, (.mov (.t 4))⟩,
      ⟨none, none, (.st 1 (.t 2) (.k .nsl))⟩,
      ⟨none, none, (.st 1 (.t 3) (.t 17))⟩])
    .ret)
    .skip)))
  (.seq (.ops [⟨(some 18), none, (.ld 2 true (.t 1))⟩,
    ⟨(some 19), none, (.callF 94 [(.t 18)])⟩,
    ⟨(some 5), none, (.new [(.int .i64 0)])⟩,
    ⟨none, none, (.st 1 (.t 5) (.t 19))⟩])
  (.seq (.ops [⟨(some 20), none, .mkm⟩,
    ⟨(some 6), none, (.new [.nmp])⟩,
    ⟨none, none, (.st 1 (.t 6) (.t 20))⟩])
  (.seq (.seq (.ops [⟨(some 21), none, (.flA 0 (.t 1))⟩,
    ⟨(some 22), none, (.ld 1 false (.t 21))⟩,
    ⟨(some 23), none, (.len false (.t 22))⟩,
    ⟨(some 24), none, (.callF 95 [(.t 23)])⟩])
  (.blk 0 (.rf (.t 24) [25] (.ops [⟨(some 7), none, (.mov (.t 25))⟩])
      (.blk 1 (.seq (.ops [⟨(some 26), none, (.ld 2 true (.t 1))⟩,
          ⟨(some 27), none, (.mov (.t 7))⟩,
          ⟨(some 30), none, (.ld 1 false (.t 5))⟩,
          ⟨(some 28), none, (.callF 85 [(.t 26), (.t 27)])⟩,
          ⟨none, none, (.chk 1 false (.t 5) 30)⟩,
          ⟨(some 29), none, (.callF 86 [(.t 28)])⟩,
          ⟨none, none, (.chk 1 false (.t 5) 30)⟩,
          ⟨(some 31), none, (.bin .and (.t 29) (.t 30))⟩,
          ⟨(some 8), none, (.mov (.t 31))⟩])
        (.seq (.seq (.ops [⟨(some 32), none, (.mov (.t 8))⟩,
          ⟨(some 33), none, (.bin .eql (.t 32) (.k (.int .i64 0)))⟩])
        (.cnd (.t 33)
          (.seq (.ops [⟨none, none, (.st 1 (.t 2) (.k .nsl))⟩,
            ⟨none, none, (.st 1 (.t 3) (.k (.int .i64 7)))⟩])
          .ret)
          .skip))
        (.ops [⟨(some 34), none, (.ld 1 false (.t 6))⟩,
          ⟨(some 35), none, (.mov (.t 8))⟩,
          ⟨none, none, (.mup .i (.t 34) (.t 35) (.k (.bool true)))⟩])))))))
  (.seq (.seq (.frz (.t 20))
  (.ops [⟨(some 36), none, (.ld 1 false (.t 5))⟩,
    ⟨(some 37), none, (.callF 87 [(.t 36)])⟩,
    ⟨(some 9), none, (.mov (.t 37))⟩]))
  (.seq .skip
  (.seq (.seq (.ops [⟨(some 38), none, (.ld 1 false (.t 5))⟩,
    ⟨(some 10), none, (.mov (.t 38))⟩])
  (.blk 2 (.loop (.seq (.seq (.ops [⟨(some 39), none, (.mov (.t 10))⟩,
        ⟨(some 40), none, (.bin .gtr (.t 39) (.k (.int .i64 0)))⟩])
      (.cnd (.t 40)
        .skip
        (.exit 2)))
      (.seq (.blk 3 (.seq (.ops [⟨(some 45), none, (.mov (.t 10))⟩,
          ⟨(some 46), none, (.callF 87 [(.t 45)])⟩,
          ⟨(some 11), none, (.mov (.t 46))⟩])
        (.seq (.seq (.ops [⟨(some 47), none, (.mov (.t 11))⟩,
          ⟨(some 48), none, (.mov (.t 9))⟩,
          ⟨(some 49), none, (.callF 96 [(.t 47), (.t 48)])⟩,
          ⟨(some 50), none, (.bin .geq (.t 49) (.k (.int .i64 0)))⟩])
        (.cnd (.t 50)
          (.exit 3)
          .skip))
        (.seq (.seq (.ops [⟨(some 51), none, (.ld 1 false (.t 6))⟩,
          ⟨(some 52), none, (.rng (.t 51))⟩])
        (.blk 4 (.loop (.seq (.ops [⟨(some 53), none, (.nxt (.t 52))⟩,
              ⟨(some 54), none, (.ext 0 (.t 53))⟩])
            (.seq (.cnd (.t 54)
              .skip
              (.exit 4))
            (.blk 5 (.seq (.ops [⟨(some 55), none, (.ent (.t 52))⟩,
                ⟨(some 56), none, (.ext 0 (.t 55))⟩,
                ⟨(some 12), none, (.mov (.t 56))⟩])
              (.seq (.ops [⟨(some 57), none, (.mov (.t 12))⟩,
                ⟨(some 58), none, (.mov (.t 10))⟩,
                ⟨(some 59), none, (.bin .and (.t 57) (.t 58))⟩,
                ⟨(some 60), none, (.bin .eql (.t 59) (.k (.int .i64 0)))⟩])
              (.cnd (.t 60)
                (.exit 3)
                .skip)))))))))
        (.ops [⟨(some 61), none, (.mov (.t 11))⟩,
          ⟨(some 9), none, (.mov (.t 61))⟩])))))
      (.ops [⟨(some 41), none, (.mov (.t 10))⟩,
        ⟨(some 42), none, (.bin .sub (.t 41) (.k (.int .i64 1)))⟩,
        ⟨(some 43), none, (.ld 1 false (.t 5))⟩,
        ⟨(some 44), none, (.bin .and (.t 42) (.t 43))⟩,
        ⟨(some 10), none, (.mov (.t 44))⟩]))))))
  (.seq (.ops [⟨(some 62), none, (.mov (.t 9))⟩,
    ⟨none, none, (.st 1 (.t 2) (.t 62))⟩,
    ⟨none, none, (.st 1 (.t 3) (.k (.int .i64 0)))⟩])
  .ret)))))))))⟩
def hint53 (P : Program) : Hint := { site := [], nils := [], frz := [(36, 20)], mve := [], wr := [] }

/-- The keys so far: what the orders break of what must be kept. -/
def keysC (gs : List Guest) (rs : List Rule) (pre : List (List Int)) (l : List Int) : Prop := ∀ x : Int, x ∈ l ↔ ∃ o ∈ pre, x = ((brk gs rs o &&& mustN rs : Nat) : Int)
theorem Conflict0_c (gs : List Guest) (rs : List Rule) (hl0 : gs.length < 1000) (hr0 : rs.length < 1000) (hs : ∀ g ∈ gs, g.name.size ≤ 1000) :
    Fn0 Try.prog 53 [pA gs rs] (fun v => v = .tup [lsV (cfP gs rs).1, .int .i64 (cfP gs rs).2]) := by
  by_cases h0 : pErr gs rs = 0
  case neg =>
    have hc : cfP gs rs = ([], pErr gs rs) := by rw [cfP, if_neg h0]
    rw [hc]
    refine RawC.walk (H := hint53 Try.prog) ir53 Try.func53 rfl rfl rfl ?_
    unfold ir53
    repeat' (first
      | with_reducible (first | refine Rd.p ?_ | refine zE ?_ | refine zE0 ?_)
      | with_reducible (first | refine zI fun y hy => ?_ | refine zL ?_ | refine zS ?_ | refine zA fun _ => ?_ | refine zV ?_ | refine zC ?_ | refine zG ?_ | refine zU ?_ | refine zG0 ?_ | refine zU0 ?_ | refine zF ?_)
      | ((with_reducible refine acall_id ?_); refine ACall.val (Check_c gs rs hl0 hr0 hs) rfl rfl ?_)
      | with_reducible (first | refine zX ?_ | refine zD fun _ => ?_ | refine zD0 ?_ | refine zN ?_ | refine zF0 ?_ | refine zX0 ?_ | refine z1 ?_ | refine z2 ?_ | refine z3 ?_ | refine z4 ?_ | refine z5 ?_ | refine z6 ?_ | refine z7 ?_ | refine z8 ?_ | refine y1 ?_ | refine y2 ?_ | refine y3 ?_ | refine y4 ?_ | refine y5 ?_ | refine y6 ?_ | refine y7 ?_ | refine y8 ?_ | refine Rt.p (fun _ => ?_) fun _ => ?_)
      | ((with_reducible apply w_ixM); (focus exact rfl); (focus exact rfl); case' hk => intro y hy) | ((with_reducible (first | apply w_val | apply q_ends)); (focus exact rfl)))
    rfl
  have hp := pOK_of h0
  have h7 := hp.g7
  have h12 := hp.r12
  have h62 := pow62 h12
  have hmN := mustN_lt rs
  have hst : Fn0 Try.prog 94 [pA gs rs] (fun v => v = .int .i64 (mustN rs)) := strict_c gs rs h12
  refine RawC.walk (H := hint53 Try.prog) ir53 Try.func53 rfl rfl rfl ?_
  unfold ir53
  repeat' (first
    | with_reducible (first | refine Rd.p ?_ | refine zE ?_ | refine zE0 ?_)
    | with_reducible (first | refine zI fun y hy => ?_ | refine zL ?_ | refine zS ?_ | refine zA fun _ => ?_ | refine zV ?_ | refine zC ?_ | refine zG ?_ | refine zU ?_ | refine zG0 ?_ | refine zU0 ?_ | refine zF ?_)
    | ((with_reducible refine acall_id ?_); refine ACall.val (Check_c gs rs hl0 hr0 hs) rfl rfl ?_)
    | ((with_reducible refine acall_id ?_); refine ACall.val hst rfl rfl ?_)
    | ((with_reducible refine acall_id ?_); refine ACall.val (orders_c gs.length) rfl rfl ?_)
    | with_reducible (first | refine zX ?_ | refine zD fun _ => ?_ | refine zD0 ?_ | refine zN ?_ | refine zF0 ?_ | refine zX0 ?_ | refine z1 ?_ | refine z2 ?_ | refine z3 ?_ | refine z4 ?_ | refine z5 ?_ | refine z6 ?_ | refine z7 ?_ | refine z8 ?_ | refine y1 ?_ | refine y2 ?_ | refine y3 ?_ | refine y4 ?_ | refine y5 ?_ | refine y6 ?_ | refine y7 ?_ | refine y8 ?_ | refine Rt.p (fun _ => ?_) fun _ => ?_)
    | ((with_reducible apply w_ixM); (focus exact rfl); (focus exact rfl); case' hk => intro y hy) | ((with_reducible (first | apply w_val | apply q_ends)); (focus exact rfl)))
  rename_i g1 g2 g3 g5 g20 g6
  refine w_rfM encL (perms gs.length) rfl (orders_it gs.length (by omega) hp.g1) (fun _ => rfl) [1, 2, 3, 5, 6] (fun (rest : List (List Int)) (l : List Int) => ∃ pre, perms gs.length = pre ++ rest ∧ (∀ o ∈ pre, brk gs rs o &&& mustN rs ≠ 0) ∧ keysC gs rs pre l)
    (fun l => [(20, (g20, .row [.mpv (l.map (AV.int .i64)) (trueL l)]))]) [] ⟨[], rfl, (fun o ho => by cases ho), fun x => by simp⟩ ⟨rfl, trivial⟩ ?_ ?_
  · rintro x rest l ⟨pre, hsp, hne, hkey⟩ σ'
    have hx := perm_of (show x ∈ perms gs.length by rw [hsp]; simp)
    have hal := atL_len x
    have hxl := hx.len
    have hand : bitV .and .i64 ((brk gs rs x : Nat) : Int) ((mustN rs : Nat) : Int) = ((brk gs rs x &&& mustN rs : Nat) : Int) := and_nat _ _ (Nat.lt_trans (brk_lt gs rs x) h62) (Nat.lt_trans hmN h62)
    have hso := seatedOf_c gs rs x (by omega) (fun i hi => by rw [hxl]; exact hx.bd i hi)
    have hbr : Fn0 Try.prog 86 [sA gs rs (atL x)] (fun v => v = .int .i64 (brk gs rs x)) := broken_c gs rs (atL x) (fun r h => by rw [hal, hxl]; exact hp.r r h) (by omega) (by omega) (atL_bd x (by omega)) h12
    by_cases hz : brk gs rs x &&& mustN rs = 0
    · have hok : okL gs rs ≠ [] := by
        intro hc
        have : x ∈ okL gs rs := List.mem_filter.2 ⟨by rw [hsp]; simp, (must_alw gs rs x).1 hz⟩
        rw [hc] at this; cases this
      have hc : cfP gs rs = ([], 7) := by rw [cfP, if_pos h0, if_neg hok]
      rw [hc]
      rw [hz] at hand
      repeat' (first
        | with_reducible (first | refine Rd.p ?_ | refine zE ?_ | refine zE0 ?_)
        | (with_reducible refine q_rnd_ret ?_)
        | with_reducible (first | refine zI fun y hy => ?_ | refine zL ?_ | refine zS ?_ | refine zA fun _ => ?_ | refine zV ?_ | refine zC ?_ | refine zG ?_ | refine zU ?_ | refine zG0 ?_ | refine zU0 ?_ | refine zF ?_)
        | ((with_reducible refine acall_id ?_); refine ACall.val hso rfl rfl ?_)
        | ((with_reducible refine acall_id ?_); refine ACall.val hbr rfl rfl ?_)
        | with_reducible (first | refine zX ?_ | refine zD fun _ => ?_ | refine zD0 ?_ | refine zN ?_ | refine zF0 ?_ | refine zX0 ?_ | refine z1 ?_ | refine z2 ?_ | refine z3 ?_ | refine z4 ?_ | refine z5 ?_ | refine z6 ?_ | refine z7 ?_ | refine z8 ?_ | refine y1 ?_ | refine y2 ?_ | refine y3 ?_ | refine y4 ?_ | refine y5 ?_ | refine y6 ?_ | refine y7 ?_ | refine y8 ?_ | refine Rt.p (fun _ => ?_) fun _ => ?_)
        | ((with_reducible apply w_ixM); (focus exact rfl); (focus exact rfl); case' hk => intro y hy) | ((with_reducible (first | apply w_val | apply q_ends)); (focus exact rfl)))
      rfl
    · have hne0 : ¬ bitV .and .i64 ((brk gs rs x : Nat) : Int) ((mustN rs : Nat) : Int) = 0 := by rw [hand]; omega
      repeat' (first
        | with_reducible (first | refine Rd.p ?_ | refine zE ?_ | refine zE0 ?_)
        | (with_reducible refine q_rnd_ret ?_)
        | (refine w_mupI rfl rfl (show _ from congrArg (AV.int .i64) hand) ?_)
        | with_reducible (first | refine zI fun y hy => ?_ | refine zL ?_ | refine zS ?_ | refine zA fun _ => ?_ | refine zV ?_ | refine zC ?_ | refine zG ?_ | refine zU ?_ | refine zG0 ?_ | refine zU0 ?_ | refine zF ?_)
        | ((with_reducible refine acall_id ?_); refine ACall.val hso rfl rfl ?_)
        | ((with_reducible refine acall_id ?_); refine ACall.val hbr rfl rfl ?_)
        | with_reducible (first | refine zX ?_ | refine zD fun _ => ?_ | refine zD0 ?_ | refine zN ?_ | refine zF0 ?_ | refine zX0 ?_ | refine z1 ?_ | refine z2 ?_ | refine z3 ?_ | refine z4 ?_ | refine z5 ?_ | refine z6 ?_ | refine z7 ?_ | refine z8 ?_ | refine y1 ?_ | refine y2 ?_ | refine y3 ?_ | refine y4 ?_ | refine y5 ?_ | refine y6 ?_ | refine y7 ?_ | refine y8 ?_ | refine Rt.p (fun _ => ?_) fun _ => ?_)
        | ((with_reducible apply w_ixM); (focus exact rfl); (focus exact rfl); case' hk => intro y hy) | ((with_reducible (first | apply w_val | apply q_ends)); (focus exact rfl)))
      refine q_rnd (insI l ((brk gs rs x &&& mustN rs : Nat) : Int)) ⟨pre ++ [x], by rw [hsp]; simp, fun o ho => ?_, fun z => ?_⟩ (by repeat' (first | exact slots_nil | apply slots_cons | rfl | (rw [map_snoc]; rfl) | (rw [len_snoc]; rfl) | (rw [hS]; rfl) | (rw [hS, map_snoc]; rfl) | (refine int_eq ?_; (try dsimp only); omega) | (refine congrArg AV.bool ?_; simp_all; done))) (by repeat' (first | exact kept_nil | apply kept_cons | rfl))
      · rcases List.mem_append.1 ho with h | h
        · exact hne o h
        · simp at h; subst h; exact hz
      · rw [mem_insI, hkey z]
        constructor
        · rintro (⟨o, ho, rfl⟩ | rfl)
          · exact ⟨o, by simp [ho], rfl⟩
          · exact ⟨x, by simp, rfl⟩
        · rintro ⟨o, ho, rfl⟩
          rcases List.mem_append.1 ho with h | h
          · exact .inl ⟨o, h, rfl⟩
          · simp at h; subst h; exact .inr rfl
  · rintro xs ⟨pre, hsp, hne, hkey⟩ σ'
    rw [List.append_nil] at hsp
    subst hsp
    have hok : okL gs rs = [] := by
      rw [List.eq_nil_iff_forall_not_mem]
      intro o ho
      have := List.mem_filter.1 ho
      exact hne o this.1 ((must_alw gs rs o).2 this.2)
    have hmm := must_members rs h12
    have hN62 := Nat.lt_trans hmN h62
    have hself : mustN rs &&& mustN rs = mustN rs := Nat.and_self _
    have hmust : hitB gs rs (membersL (mustN rs)) = true := by
      rw [hitB, List.all_eq_true]
      intro o ho
      rw [← brk_met gs h12 o hself, Nat.and_assoc, hself]
      exact hne o ho
    have hmem := members_c (mustN rs) hN62
    have hpl : ∀ t, t &&& mustN rs = t → t < 2 ^ 62 := fun t ht => Nat.lt_of_le_of_lt (sub_le ht) hN62
    have hlen : ∀ t, (membersL t).length ≤ 62 := fun t => bitsL_len t 62
    have hlm : (mustL rs).length ≤ 62 := by rw [← hmm]; exact hlen _
    repeat' (first
      | with_reducible (first | refine Rd.p ?_ | refine zE ?_ | refine zE0 ?_)
      | (refine w_frzM [(1, .ref 1 g1 0), (2, .ref 2 g2 0), (3, .ref 3 g3 0), (5, .ref 5 g5 0), (6, .ref 6 g6 0)] [(2, (g2, .row [.nsl])), (3, (g3, .row [.int .i64 0])), (5, (g5, .row [.int .i64 (mustN rs)])), (6, (g6, .row [.fmp (xs.map (AV.int .i64)) (trueL xs)]))] rfl rfl ⟨rfl, rfl, rfl, rfl, rfl, trivial⟩ ⟨frzMS_keep rfl (by decide) rfl, frzMS_keep rfl (by decide) rfl, frzMS_keep rfl (by decide) rfl, frzMS_at rfl (by decide), trivial⟩ ?_; intro e1 σ1)
      | with_reducible (first | refine zI fun y hy => ?_ | refine zL ?_ | refine zS ?_ | refine zA fun _ => ?_ | refine zV ?_ | refine zC ?_ | refine zG ?_ | refine zU ?_ | refine zG0 ?_ | refine zU0 ?_ | refine zF ?_)
      | ((with_reducible refine acall_id ?_); refine ACall.val hmem rfl rfl ?_)
      | with_reducible (first | refine zX ?_ | refine zD fun _ => ?_ | refine zD0 ?_ | refine zN ?_ | refine zF0 ?_ | refine zX0 ?_ | refine z1 ?_ | refine z2 ?_ | refine z3 ?_ | refine z4 ?_ | refine z5 ?_ | refine z6 ?_ | refine z7 ?_ | refine z8 ?_ | refine y1 ?_ | refine y2 ?_ | refine y3 ?_ | refine y4 ?_ | refine y5 ?_ | refine y6 ?_ | refine y7 ?_ | refine y8 ?_ | refine Rt.p (fun _ => ?_) fun _ => ?_)
      | ((with_reducible apply w_ixM); (focus exact rfl); (focus exact rfl); case' hk => intro y hy) | ((with_reducible (first | apply w_val | apply q_ends)); (focus exact rfl)))
    refine w_loopK [2, 3, 5, 6] [2, 3, 5, 6] (fun x : Nat × List Int => x.1 &&& mustN rs = x.1 ∧ List.Sublist x.2 (mustL rs) ∧ hitB gs rs x.2 = true ∧ ∀ t, t &&& mustN rs = t → x.1 < t → hitB gs rs (membersL t) = true → 0 ≤ lsI (membersL t) x.2) (fun x => x.1)
      (fun x => [(10, .int .i64 x.1), (9, .slc 1 (iR x.2) .non)]) (fun _ => []) (mustN rs, membersL (mustN rs)) ⟨hself, by rw [hmm]; exact List.Sublist.refl _, hmust, fun t ht hlt => absurd (sub_le ht) (by dsimp only at hlt; omega)⟩ ⟨rfl, rfl, trivial⟩ trivial ?_
    rintro ⟨set, best⟩ ⟨hsub, hbs, hbh, hbl⟩ e σ
    dsimp only at hsub hbs hbh hbl ⊢
    have hs62 := hpl set hsub
    have hbl62 : best.length ≤ 62 := Nat.le_trans hbs.length_le hlm
    have hls := lists_c (membersL set) best (by have := hlen set; omega) (by omega)
    have hms := members_c set hs62
    cases set with
    | zero =>
      repeat' (first
        | with_reducible (first | refine Rd.p ?_ | refine zE ?_ | refine zE0 ?_)
        | with_reducible (first | refine zI fun y hy => ?_ | refine zL ?_ | refine zS ?_ | refine zA fun _ => ?_ | refine zV ?_ | refine zC ?_ | refine zG ?_ | refine zU ?_ | refine zG0 ?_ | refine zU0 ?_ | refine zF ?_)
        | ((with_reducible refine acall_id ?_); refine ACall.val hms rfl rfl ?_)
        | ((with_reducible refine acall_id ?_); refine ACall.val hls rfl rfl ?_)
        | with_reducible (first | refine zX ?_ | refine zD fun _ => ?_ | refine zD0 ?_ | refine zN ?_ | refine zF0 ?_ | refine zX0 ?_ | refine z1 ?_ | refine z2 ?_ | refine z3 ?_ | refine z4 ?_ | refine z5 ?_ | refine z6 ?_ | refine z7 ?_ | refine z8 ?_ | refine y1 ?_ | refine y2 ?_ | refine y3 ?_ | refine y4 ?_ | refine y5 ?_ | refine y6 ?_ | refine y7 ?_ | refine y8 ?_ | refine Rt.p (fun _ => ?_) fun _ => ?_)
        | ((with_reducible apply w_ixM); (focus exact rfl); (focus exact rfl); case' hk => intro y hy) | ((with_reducible (first | apply w_val | apply q_ends)); (focus exact rfl)))
      have hcnf : Cnf gs rs best := by
        refine ⟨hbs, hbh, fun y hy hyh => ?_⟩
        obtain ⟨t, ht, rfl⟩ := list_sub h12 hy
        refine hbl t ht (Nat.pos_of_ne_zero fun hz => ?_) hyh
        subst hz
        exact hit_ne hyh members_0
      rw [cfP_ok h0 h12 hok hcnf, lsV_ne (hit_ne hbh)]; rfl
    | succ s0 =>
      have hsub1 : ((s0 + 1 : Nat) : Int) - 1 = ((s0 : Nat) : Int) := by omega
      have hand : bitV .and .i64 (((s0 + 1 : Nat) : Int) - 1) ((mustN rs : Nat) : Int) = ((s0 &&& mustN rs : Nat) : Int) := by rw [hsub1]; exact and_nat _ _ (by omega) hN62
      have hnext : s0 &&& mustN rs < s0 + 1 := Nat.lt_succ_of_le Nat.and_le_left
      have hnsub : (s0 &&& mustN rs) &&& mustN rs = s0 &&& mustN rs := by rw [Nat.and_assoc, hself]
      have hstep : ∀ t, t &&& mustN rs = t → s0 &&& mustN rs < t → t = s0 + 1 ∨ s0 + 1 < t := by
        intro t ht hlt
        refine Decidable.byContradiction fun hc => ?_
        have := sub_next (s0 + 1) (mustN rs) t hsub ht (by omega)
        simp only [Nat.add_sub_cancel] at this
        omega
      have hkb : ∀ x ∈ xs, ∀ o, x = ((brk gs rs o &&& mustN rs : Nat) : Int) → (bitV .and .i64 x ((s0 + 1 : Nat) : Int) = 0 ↔ ¬ metB (membersL (s0 + 1)) (brkL gs rs o) = true) := by
        rintro x _ o rfl
        have h1 : bitV .and .i64 ((brk gs rs o &&& mustN rs : Nat) : Int) ((s0 + 1 : Nat) : Int) = (((brk gs rs o &&& mustN rs) &&& (s0 + 1) : Nat) : Int) := and_nat _ _ (Nat.lt_of_le_of_lt Nat.and_le_right hN62) hs62
        rw [h1, ← brk_met gs h12 o hsub]
        omega
      repeat' (first
        | with_reducible (first | refine Rd.p ?_ | refine zE ?_ | refine zE0 ?_)
        | with_reducible (first | refine zI fun y hy => ?_ | refine zL ?_ | refine zS ?_ | refine zA fun _ => ?_ | refine zV ?_ | refine zC ?_ | refine zG ?_ | refine zU ?_ | refine zG0 ?_ | refine zU0 ?_ | refine zF ?_)
        | ((with_reducible refine acall_id ?_); refine ACall.val hms rfl rfl ?_)
        | ((with_reducible refine acall_id ?_); refine ACall.val hls rfl rfl ?_)
        | with_reducible (first | refine zX ?_ | refine zD fun _ => ?_ | refine zD0 ?_ | refine zN ?_ | refine zF0 ?_ | refine zX0 ?_ | refine z1 ?_ | refine z2 ?_ | refine z3 ?_ | refine z4 ?_ | refine z5 ?_ | refine z6 ?_ | refine z7 ?_ | refine z8 ?_ | refine y1 ?_ | refine y2 ?_ | refine y3 ?_ | refine y4 ?_ | refine y5 ?_ | refine y6 ?_ | refine y7 ?_ | refine y8 ?_ | refine Rt.p (fun _ => ?_) fun _ => ?_)
        | ((with_reducible apply w_ixM); (focus exact rfl); (focus exact rfl); case' hk => intro y hy) | ((with_reducible (first | apply w_val | apply q_ends)); (focus exact rfl)))
      · rename_i hge
        refine q_loop (s0 &&& mustN rs, best) ⟨hnsub, hbs, hbh, fun t ht hlt hh => ?_⟩ hnext ⟨congrArg (AV.int .i64) hand, rfl, trivial⟩ (by repeat' (first | exact slots_nil | apply slots_cons | rfl | (rw [map_snoc]; rfl) | (rw [len_snoc]; rfl) | (rw [hS]; rfl) | (rw [hS, map_snoc]; rfl) | (refine int_eq ?_; (try dsimp only); omega) | (refine congrArg AV.bool ?_; simp_all; done))) (by repeat' (first | exact kept_nil | apply kept_cons | rfl)) (by repeat' (first | exact kept_nil | apply kept_cons | rfl))
        rcases hstep t ht hlt with rfl | h
        · exact hge
        · exact hbl t ht h hh
      · rename_i hlt0 g52
        refine w_loopK [2, 3, 5, 6, 9, 10, 11, 52] [2, 3, 5, 6] (fun y : List Int × List AV => (∀ x ∈ y.1, x ∈ xs) ∧ ∀ x ∈ xs, x ∈ y.1 ∨ ¬ bitV .and .i64 x ((s0 + 1 : Nat) : Int) = 0) (fun y => y.1.length) (fun _ => []) (fun y => [(52, (g52, .row [.itv y.2 (y.1.map (AV.int .i64)) (trueL y.1)]))]) (xs, []) ⟨fun x h => h, fun x h => .inl h⟩ trivial ⟨rfl, trivial⟩ ?_
        rintro ⟨rest, cur⟩ ⟨hr1, hr2⟩ e2 σ2
        dsimp only at hr1 hr2 ⊢
        cases rest with
        | nil =>
          have hh : hitB gs rs (membersL (s0 + 1)) = true := by
            rw [hitB, List.all_eq_true]
            intro o ho
            have hx := (hkey _).2 ⟨o, ho, rfl⟩
            refine Decidable.byContradiction fun hc => ?_
            rcases hr2 _ hx with h | h
            · cases h
            · exact h ((hkb _ hx o rfl).2 hc)
          repeat' (first
            | with_reducible (first | refine Rd.p ?_ | refine zE ?_ | refine zE0 ?_)
            | (refine w_nxtE rfl rfl ?_)
            | with_reducible (first | refine zI fun y hy => ?_ | refine zL ?_ | refine zS ?_ | refine zA fun _ => ?_ | refine zV ?_ | refine zC ?_ | refine zG ?_ | refine zU ?_ | refine zG0 ?_ | refine zU0 ?_ | refine zF ?_)
            | with_reducible (first | refine zX ?_ | refine zD fun _ => ?_ | refine zD0 ?_ | refine zN ?_ | refine zF0 ?_ | refine zX0 ?_ | refine z1 ?_ | refine z2 ?_ | refine z3 ?_ | refine z4 ?_ | refine z5 ?_ | refine z6 ?_ | refine z7 ?_ | refine z8 ?_ | refine y1 ?_ | refine y2 ?_ | refine y3 ?_ | refine y4 ?_ | refine y5 ?_ | refine y6 ?_ | refine y7 ?_ | refine y8 ?_ | refine Rt.p (fun _ => ?_) fun _ => ?_)
            | ((with_reducible apply w_ixM); (focus exact rfl); (focus exact rfl); case' hk => intro y hy) | ((with_reducible (first | apply w_val | apply q_ends)); (focus exact rfl)))
          refine q_loop (s0 &&& mustN rs, membersL (s0 + 1)) ⟨hnsub, sub_list h12 hsub, hh, fun t ht hlt hth => ?_⟩ hnext ⟨congrArg (AV.int .i64) hand, rfl, trivial⟩ (by repeat' (first | exact slots_nil | apply slots_cons | rfl | (rw [map_snoc]; rfl) | (rw [len_snoc]; rfl) | (rw [hS]; rfl) | (rw [hS, map_snoc]; rfl) | (refine int_eq ?_; (try dsimp only); omega) | (refine congrArg AV.bool ?_; simp_all; done))) (by repeat' (first | exact kept_nil | apply kept_cons | rfl)) (by repeat' (first | exact kept_nil | apply kept_cons | rfl))
          rcases hstep t ht hlt with rfl | h
          · rw [lsI_eq.2 rfl]; exact Int.le_refl _
          · have h1 := hbl t ht h hth
            refine Int.not_lt.1 fun hc => ?_
            have := lsI_trans hc (Int.not_le.1 hlt0)
            omega
        | cons a rest =>
          repeat' (first
            | with_reducible (first | refine Rd.p ?_ | refine zE ?_ | refine zE0 ?_)
            | (refine w_nxtC (l := a :: rest) (AV.int .i64) (fun _ => .bool true) rfl rfl (by simp) fun j b hjb => ?_)
            | with_reducible (first | refine zI fun y hy => ?_ | refine zL ?_ | refine zS ?_ | refine zA fun _ => ?_ | refine zV ?_ | refine zC ?_ | refine zG ?_ | refine zU ?_ | refine zG0 ?_ | refine zU0 ?_ | refine zF ?_)
            | with_reducible (first | refine zX ?_ | refine zD fun _ => ?_ | refine zD0 ?_ | refine zN ?_ | refine zF0 ?_ | refine zX0 ?_ | refine z1 ?_ | refine z2 ?_ | refine z3 ?_ | refine z4 ?_ | refine z5 ?_ | refine z6 ?_ | refine z7 ?_ | refine z8 ?_ | refine y1 ?_ | refine y2 ?_ | refine y3 ?_ | refine y4 ?_ | refine y5 ?_ | refine y6 ?_ | refine y7 ?_ | refine y8 ?_ | refine Rt.p (fun _ => ?_) fun _ => ?_)
            | ((with_reducible apply w_ixM); (focus exact rfl); (focus exact rfl); case' hk => intro y hy) | ((with_reducible (first | apply w_val | apply q_ends)); (focus exact rfl)))
          · rename_i hz
            have hb := hr1 b (List.mem_of_getElem? hjb)
            obtain ⟨o, ho, hbo⟩ := (hkey b).1 hb
            have hnm := (hkb b hb o hbo).1 hz
            refine q_loop (s0 &&& mustN rs, best) ⟨hnsub, hbs, hbh, fun t ht hlt hh => ?_⟩ hnext ⟨congrArg (AV.int .i64) hand, rfl, trivial⟩ (by repeat' (first | exact slots_nil | apply slots_cons | rfl | (rw [map_snoc]; rfl) | (rw [len_snoc]; rfl) | (rw [hS]; rfl) | (rw [hS, map_snoc]; rfl) | (refine int_eq ?_; (try dsimp only); omega) | (refine congrArg AV.bool ?_; simp_all; done))) (by repeat' (first | exact kept_nil | apply kept_cons | rfl)) (by repeat' (first | exact kept_nil | apply kept_cons | rfl))
            rcases hstep t ht hlt with rfl | h
            · exact absurd (List.all_eq_true.1 hh o ho) hnm
            · exact hbl t ht h hh
          · rename_i hz
            have hj : j < (a :: rest).length := (List.getElem?_eq_some_iff.1 hjb).1
            refine q_loop ((a :: rest).eraseIdx j, [.int .i64 b, .bool true]) ⟨fun x hx => hr1 x (List.mem_of_mem_eraseIdx hx), fun x hx => ?_⟩ (by dsimp only; rw [List.length_eraseIdx, if_pos hj]; omega) trivial (by repeat' (first | exact slots_nil | apply slots_cons | rfl | (rw [map_snoc]; rfl) | (rw [len_snoc]; rfl) | (rw [hS]; rfl) | (rw [hS, map_snoc]; rfl) | (refine int_eq ?_; (try dsimp only); omega) | (refine congrArg AV.bool ?_; simp_all; done))) (by repeat' (first | exact kept_nil | apply kept_cons | rfl)) (by repeat' (first | exact kept_nil | apply kept_cons | rfl))
            rcases hr2 x hx with h | h
            · by_cases hxb : x = b
              · subst hxb; exact .inr hz
              · refine .inl ?_
                rw [List.mem_eraseIdx_iff_getElem?]
                obtain ⟨i, hi⟩ := List.getElem?_of_mem h
                refine ⟨i, fun e => hxb ?_, hi⟩
                subst e; rw [hi] at hjb; cases hjb; rfl
            · exact .inr h
theorem Conflict_c (gs : List Guest) (rs : List Rule) (hl0 : gs.length < 1000) (hr0 : rs.length < 1000) (hs : ∀ g ∈ gs, g.name.size ≤ 1000) :
    Fn0 Try.prog 53 [pA gs rs] (fun v => v = .tup [.slc 1 (iR (cfP gs rs).1) .non, .int .i64 (cfP gs rs).2]) :=
  RawC.sub (Conflict0_c gs rs hl0 hr0 hs) fun a s h => ⟨_, by subst h; exact fun G v ⟨vs, h1, h2⟩ => ⟨vs, h1, SubL.rel (.cons (lsV_sub _) (.cons (Sub.refl _) .nil)) h2⟩, rfl⟩
end Go.Abs
