/- A part of the proofs of the laws of this seat: contracts of the functions that they reach, each proved of the program's form in Lean. No condition beyond those that each contract names. -/
import Derived.Test.YtmekfgjlcaonjaaC7
import Derived.Test.YtmekfgjlcaonjaaC6
import Derived.Test.YtmekfgjlcaonjaaC5
import Derived.Test.YtmekfgjlcaonjaaC4
import Derived.Test.YtmekfgjlcaonjaaC3
import Derived.Test.YtmekfgjlcaonjaaC2
import Derived.Test.YtmekfgjlcaonjaaC1
import Derived.Test.YtmekfgjlcaonjaaB
set_option linter.unusedVariables false
set_option linter.unusedSimpArgs false
set_option maxRecDepth 20000
set_option maxHeartbeats 4000000
namespace Go.Abs
open Go.Proofs
section
variable {P : Program}
theorem w_mlkF {K : (Nat → AV) → Sig → Prop} {e : Nat → AV} {σ : Sig} {m k : IOpd} {d : Nat} {r : List IStep} {l : List Int} {a : Int} (hm : m.ev e = .fmp (l.map (AV.int .i64)) (trueL l)) (hk : k.ev e = .int .i64 a)
    (hK : stepsW P r K (upd e d (.bool (decide (a ∈ l)))) σ) : stepsW P (⟨some d, none, .mlk .i (.bool false) false m k⟩ :: r) K e σ := by
  refine w_det (p := True) (v := fun _ => .bool (decide (a ∈ l))) (σ' := fun _ => σ) (fun _ => ?_) trivial fun _ => hK
  show mlkO .i (.bool false) false σ (k.ev e) (m.ev e) = _
  rw [hm, hk]
  simp only [mlkO, mapR]
  rw [findI]
  simp only
  by_cases h : a ∈ l
  · rw [if_pos h, Nat.zero_add]; simp only [lkV]; rw [decide_eq_true h]
    have := List.idxOf_lt_length_of_mem h
    simp [trueL, List.getD, this]
  · rw [if_neg h, decide_eq_false h]; rfl
end
open Classical in
/-- The holders, in order. -/
noncomputable def holL (c : Chn) (day : Int) : List Int := ((List.range 21).map fun (k : Nat) => (k : Int) - 1).filter fun w => decide (holdC c day w)
theorem holdC_bd {c : Chn} {day w : Int} (ok : Okc c) (h : holdC c day w) : -1 ≤ w ∧ w ≤ 19 := by
  obtain ⟨x, _, h⟩ := h
  have := ok.own
  rcases h with ⟨rfl, _⟩ | ⟨j, _, rfl, _⟩
  · omega
  · rcases whoAt_mem c x.1 j with h | ⟨l, hl, h⟩ | h
    · omega
    · have := ok.to l hl; omega
    · omega
theorem holL_mem {c : Chn} {day w : Int} (ok : Okc c) : w ∈ holL c day ↔ holdC c day w := by
  simp only [holL, List.mem_filter, decide_eq_true_eq]
  refine ⟨And.right, fun h => ⟨?_, h⟩⟩
  have := holdC_bd ok h
  refine List.mem_map.2 ⟨(w + 1).toNat, List.mem_range.2 (by omega), by omega⟩
theorem pw_range (f : Nat → Int) (h : ∀ a b, a < b → f a < f b) (n : Nat) : ((List.range n).map f).Pairwise (· < ·) := by
  rw [List.pairwise_map]
  exact List.pairwise_lt_range.imp fun hab => h _ _ hab
theorem holL_lt (c : Chn) (day : Int) : (holL c day).Pairwise (· < ·) := (pw_range _ (fun a b h => by omega) _).filter _
theorem srtU : ∀ {l m : List Int}, l.Pairwise (· < ·) → m.Pairwise (· < ·) → (∀ w, w ∈ l ↔ w ∈ m) → l = m
  | [], [], _, _, _ => rfl
  | [], b :: m, _, _, h => by have := (h b).2 (by simp); simp at this
  | a :: l, [], _, _, h => by have := (h a).1 (by simp); simp at this
  | a :: l, b :: m, hl, hm, h => by
    rw [List.pairwise_cons] at hl hm
    have e : a = b := by
      have h1 := (h a).1 (by simp)
      have h2 := (h b).2 (by simp)
      rcases List.mem_cons.1 h1 with h1 | h1
      · exact h1
      rcases List.mem_cons.1 h2 with h2 | h2
      · exact h2.symm
      have := hm.1 a h1
      have := hl.1 b h2
      omega
    subst e
    rw [srtU hl.2 hm.2 fun w => ?_]
    have hw := h w
    rw [List.mem_cons, List.mem_cons] at hw
    constructor
    · intro hwl
      rcases hw.1 (.inr hwl) with e | e
      · subst e; have := hl.1 _ hwl; omega
      · exact e
    · intro hwm
      rcases hw.2 (.inr hwm) with e | e
      · subst e; have := hm.1 _ hwm; omega
      · exact e
theorem holP_eq {c : Chn} {day : Int} {l : List Int} (h0 : askE c day = 0) (ok : Okc c) (h : HolP c day l) : l = holL c day := by
  rw [HolP, if_pos h0] at h
  exact srtU h.1 (holL_lt c day) fun w => by rw [h.2, holL_mem ok]
theorem askE_0 {c : Chn} {day : Int} (h : askE c day = 0) : chainE c = 0 ∧ inB day 0 100000 = true := by
  unfold askE at h
  split at h
  · rename_i h1
    split at h
    · rename_i h2; exact ⟨h1, h2⟩
    · cases h
  · rename_i h1; exact absurd h h1
/-- Holders: the list. -/
noncomputable def holF (c : Chn) (day : Int) : List Int := if askE c day = 0 then holL c day else []
theorem HoldersF_s (c : Chn) (day : Int) (hl : c.ls.length < 1000) : Fn0 Try.prog 36 [cA c, .int .i64 day] (fun v => ∃ a, v = .tup [a, .int .i64 (askE c day)] ∧ NowV a (holF c day)) := by
  refine RawC.mono (Holders_s c day hl) fun v _ => ?_
  rintro ⟨l, a, h1, h2, h3⟩
  refine ⟨a, h1, ?_⟩
  by_cases h0 : askE c day = 0
  · rw [holF, if_pos h0, ← holP_eq h0 (formE_0 (chainE_0 (askE_0 h0).1).1) h3]; exact h2
  · rw [holF, if_neg h0]; rw [HolP, if_neg h0] at h3; rw [← h3]; exact h2
/-- Owned. -/
noncomputable def ownV (c : Chn) (who day : Int) : Int × Int :=
  if askE c day = 0 then (if inB who 0 19 = true then (if who ∈ holL c day then (if (holL c day).length = 1 then 1 else 3) else 2, 0) else (0, 2)) else (0, askE c day)
/-- aloeswood/store.Owned -/
def ir53 : IFn :=
  ⟨31, [(6, none), (7, none)], (.seq (.ops [⟨(some 3), none, (.box 4 (.t 0))⟩,
    ⟨(some 6), none, (.mov (.k (.int .i64 0)))⟩,
    ⟨(some 7), none, (.mov (.k (.int .i64 0)))⟩])
  (.seq (.seq (.ops [⟨(some 10), none, (.ld 4 true (.t 3))⟩,
    ⟨(some 11), none, (.mov (.t 2))⟩,
    ⟨(some 12), none, (.callF 86 [(.t 10), (.t 11)])⟩,
    ⟨(some 8), none, (.mov (.t 12))⟩])
  (.seq (.ops [⟨(some 13), none, (.mov (.t 8))⟩,
    ⟨(some 14), none, (.bin .neq (.t 13) (.k (.int .i64 0)))⟩])
  (.cnd (.t 14)
    (.seq (.ops [⟨(some 15), none, (.mov (.t 8))⟩,
      ⟨(some 6), none, (.mov (.k (.int .i64 0)))⟩,
      ⟨(some 7), none, (.mov (.t 15))⟩])
    .ret)
    .skip)))
  (.seq (.seq (.ops [⟨(some 16), none, (.mov (.t 1))⟩,
    ⟨(some 17), none, (.callF 104 [(.t 16)])⟩,
    ⟨(some 18), none, (.not (.t 17))⟩])
  (.cnd (.t 18)
    (.seq (.ops [⟨(some 6), none, (.mov (.k (.int .i64 0)))⟩,
      ⟨(some 7), none, (.mov (.k (.int .i64 2)))⟩])
    .ret)
    .skip))
  (.seq (.ops [⟨(some 19), none, (.ld 4 true (.t 3))⟩,
    ⟨(some 20), none, (.mov (.t 2))⟩,
    ⟨(some 21), none, (.callF 87 [(.t 19), (.t 20)])⟩,
    ⟨(some 9), none, (.mov (.t 21))⟩])
  (.seq (.blk 0 (.seq (.ops [⟨(some 23), none, (.mov (.t 9))⟩,
      ⟨(some 24), none, (.mov (.t 1))⟩,
      ⟨(some 25), none, (.mlk .i (.bool false) false (.t 23) (.t 24))⟩,
      ⟨(some 26), none, (.not (.t 25))⟩,
      ⟨(some 22), none, (.mov (.t 26))⟩])
    (.cnd (.t 22)
      (.seq (.ops [⟨(some 6), none, (.mov (.k (.int .i64 2)))⟩,
        ⟨(some 7), none, (.mov (.k (.int .i64 0)))⟩])
      .ret)
      (.seq (.ops [⟨(some 28), none, (.mov (.t 9))⟩,
        ⟨(some 29), none, (.mln (.t 28))⟩,
        ⟨(some 30), none, (.bin .eql (.t 29) (.k (.int .i64 1)))⟩,
        ⟨(some 27), none, (.mov (.t 30))⟩])
      (.cnd (.t 27)
        (.seq (.ops [⟨(some 6), none, (.mov (.k (.int .i64 1)))⟩,
          ⟨(some 7), none, (.mov (.k (.int .i64 0)))⟩])
        .ret)
        .skip)))))
  (.seq (.ops [⟨(some 6), none, (.mov (.k (.int .i64 3)))⟩,
    ⟨(some 7), none, (.mov (.k (.int .i64 0)))⟩])
  .ret))))))⟩
def hint53 (P : Program) : Hint := {}
theorem perm_of_mem {l m : List Int} (hl : l.Nodup) (hm : m.Nodup) (h : ∀ w, w ∈ l ↔ w ∈ m) : l.Perm m := (List.perm_ext_iff_of_nodup hl hm).2 h
theorem Owned_s (c : Chn) (who day : Int) (hl : c.ls.length < 1000) : Fn0 Try.prog 53 [cA c, .int .i64 who, .int .i64 day] (fun v => v = .tup [.int .i64 (ownV c who day).1, .int .i64 (ownV c who day).2]) := by
  by_cases ha : askE c day = 0
  case neg =>
    rw [ownV, if_neg ha]
    refine RawC.walk (H := hint53 Try.prog) ir53 Try.func53 rfl rfl rfl ?_
    unfold ir53
    repeat' (first
      | with_reducible (first | refine Rd.p ?_ | refine w_alt ?_ ?_ | refine zE ?_ | refine zE0 ?_)
      | with_reducible (first | refine zI fun y hy => ?_ | refine zL ?_ | refine zS ?_ | refine zA fun _ => ?_ | refine zV ?_ | refine zC ?_ | refine zG ?_ | refine zU ?_ | refine zG0 ?_ | refine zU0 ?_ | refine zF ?_)
      | ((with_reducible refine acall_id ?_); refine ACall.val (asked_s c day hl) rfl rfl ?_)
      | with_reducible (first | refine zX ?_ | refine zD fun _ => ?_ | refine zD0 ?_ | refine zN ?_ | refine zF0 ?_ | refine zX0 ?_ | refine z1 ?_ | refine z2 ?_ | refine z3 ?_ | refine z4 ?_ | refine z5 ?_ | refine z6 ?_ | refine z7 ?_ | refine z8 ?_ | refine y1 ?_ | refine y2 ?_ | refine y3 ?_ | refine y4 ?_ | refine y5 ?_ | refine y6 ?_ | refine y7 ?_ | refine y8 ?_ | refine Rt.p (fun _ => ?_) fun _ => ?_)
      | ((with_reducible apply w_ixM); (focus exact rfl); (focus exact rfl); case' hk => intro y hy) | ((with_reducible (first | apply w_val | apply q_ends)); (focus exact rfl)))
    rfl
  by_cases hw : inB who 0 19 = true
  case neg =>
    rw [ownV, if_pos ha, if_neg hw]
    have ho := owner_s who
    rw [show inB who 0 19 = false by simpa using hw] at ho
    refine RawC.walk (H := hint53 Try.prog) ir53 Try.func53 rfl rfl rfl ?_
    unfold ir53
    repeat' (first
      | with_reducible (first | refine Rd.p ?_ | refine w_alt ?_ ?_ | refine zE ?_ | refine zE0 ?_)
      | with_reducible (first | refine zI fun y hy => ?_ | refine zL ?_ | refine zS ?_ | refine zA fun _ => ?_ | refine zV ?_ | refine zC ?_ | refine zG ?_ | refine zU ?_ | refine zG0 ?_ | refine zU0 ?_ | refine zF ?_)
      | ((with_reducible refine acall_id ?_); refine ACall.val (asked_s c day hl) rfl rfl ?_)
      | ((with_reducible refine acall_id ?_); refine ACall.val ho rfl rfl ?_)
      | with_reducible (first | refine zX ?_ | refine zD fun _ => ?_ | refine zD0 ?_ | refine zN ?_ | refine zF0 ?_ | refine zX0 ?_ | refine z1 ?_ | refine z2 ?_ | refine z3 ?_ | refine z4 ?_ | refine z5 ?_ | refine z6 ?_ | refine z7 ?_ | refine z8 ?_ | refine y1 ?_ | refine y2 ?_ | refine y3 ?_ | refine y4 ?_ | refine y5 ?_ | refine y6 ?_ | refine y7 ?_ | refine y8 ?_ | refine Rt.p (fun _ => ?_) fun _ => ?_)
      | ((with_reducible apply w_ixM); (focus exact rfl); (focus exact rfl); case' hk => intro y hy) | ((with_reducible (first | apply w_val | apply q_ends)); (focus exact rfl)))
    rfl
  rw [ownV, if_pos ha, if_pos hw]
  have he := (askE_0 ha).1
  have ok := formE_0 (chainE_0 he).1
  refine RawC.walk (H := hint53 Try.prog) ir53 Try.func53 rfl rfl rfl ?_
  unfold ir53
  repeat' (first
    | with_reducible (first | refine Rd.p ?_ | refine w_alt ?_ ?_ | refine zE ?_ | refine zE0 ?_)
    | (refine w_mlkF rfl rfl ?_)
    | with_reducible (first | refine zI fun y hy => ?_ | refine zL ?_ | refine zS ?_ | refine zA fun _ => ?_ | refine zV ?_ | refine zC ?_ | refine zG ?_ | refine zU ?_ | refine zG0 ?_ | refine zU0 ?_ | refine zF ?_)
    | ((with_reducible refine acall_id ?_); refine ACall.val (asked_s c day hl) rfl rfl ?_)
    | ((with_reducible refine acall_id ?_); refine ACall.val (owner_s _) rfl rfl ?_)
    | ((with_reducible refine acall_id ?_); refine ACall.fn0 (holders_s c day he) rfl ?_; rintro _ ⟨l, rfl, hnd, hm⟩)
    | with_reducible (first | refine zX ?_ | refine zD fun _ => ?_ | refine zD0 ?_ | refine zN ?_ | refine zF0 ?_ | refine zX0 ?_ | refine z1 ?_ | refine z2 ?_ | refine z3 ?_ | refine z4 ?_ | refine z5 ?_ | refine z6 ?_ | refine z7 ?_ | refine z8 ?_ | refine y1 ?_ | refine y2 ?_ | refine y3 ?_ | refine y4 ?_ | refine y5 ?_ | refine y6 ?_ | refine y7 ?_ | refine y8 ?_ | refine Rt.p (fun _ => ?_) fun _ => ?_)
    | ((with_reducible apply w_ixM); (focus exact rfl); (focus exact rfl); case' hk => intro y hy) | ((with_reducible (first | apply w_val | apply q_ends)); (focus exact rfl)))
  all_goals
    have hp : l.Perm (holL c day) := perm_of_mem hnd ((holL_lt c day).imp fun h e => by omega) fun w => by rw [hm, holL_mem ok]
    have hmm := hp.mem_iff (a := who)
    have hll := hp.length_eq
  · rename_i h1; rw [if_neg (fun h => h1 (hmm.2 h))]; rfl
  · rename_i h1 _ h2; rw [if_pos (hmm.1 h1), if_pos (by simp at h2; omega)]; rfl
  · rename_i h1 _ h2; rw [if_pos (hmm.1 h1), if_neg (by simp at h2; omega)]; rfl
end Go.Abs
