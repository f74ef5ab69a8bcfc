/- A part of the proofs of the laws of this seat: contracts of the functions that they reach, each proved of the program's form in Lean. No condition beyond those that each contract names. -/
import Derived.Test.YtmekfgjlcaonjaaC6
import Derived.Test.YtmekfgjlcaonjaaC5
import Derived.Test.YtmekfgjlcaonjaaC4
import Derived.Test.YtmekfgjlcaonjaaC3
import Derived.Test.YtmekfgjlcaonjaaC2
import Derived.Test.YtmekfgjlcaonjaaC1
import Derived.Test.YtmekfgjlcaonjaaB
set_option linter.unusedVariables false
set_option linter.unusedSimpArgs false
set_option maxRecDepth 20000
set_option maxHeartbeats 4000000
namespace Go.Abs
open Go.Proofs
/-- aloeswood/store.Holders -/
def ir36 : IFn :=
  ⟨30, [(4, none), (5, none)], (.seq (.ops [⟨(some 2), none, (.box 4 (.t 0))⟩,
    ⟨(some 4), none, (.mov (.k .nsl))⟩,
    ⟨(some 5), none, (.mov (.k (.int .i64 0)))⟩])
  (.seq (.seq (.ops [⟨(some 9), none, (.ld 4 true (.t 2))⟩,
    ⟨(some 10), none, (.mov (.t 1))⟩,
    ⟨(some 11), none, (.callF 86 [(.t 9), (.t 10)])⟩,
    ⟨(some 6), none, (.mov (.t 11))⟩])
  (.seq (.ops [⟨(some 12), none, (.mov (.t 6))⟩,
    ⟨(some 13), none, (.bin .neq (.t 12) (.k (.int .i64 0)))⟩])
  (.cnd (.t 13)
    (.seq (.ops [⟨(some 14), none, (.mov (.t 6))⟩,
      ⟨(some 4), none, (.mov (.k .nsl))⟩,
      ⟨(some 5), none, (.mov (.t 14))⟩])
    .ret)
    .skip)))
  (.seq (.ops [⟨(some 7), none, (.mov (.k .nsl))⟩])
  (.seq (.seq (.ops [⟨(some 15), none, (.ld 4 true (.t 2))⟩,
    ⟨(some 16), none, (.mov (.t 1))⟩,
    ⟨(some 17), none, (.callF 87 [(.t 15), (.t 16)])⟩,
    ⟨(some 18), none, (.rng (.t 17))⟩])
  (.blk 0 (.loop (.seq (.ops [⟨(some 19), none, (.nxt (.t 18))⟩,
        ⟨(some 20), none, (.ext 0 (.t 19))⟩])
      (.seq (.cnd (.t 20)
        .skip
        (.exit 0))
      (.blk 1 (.seq (.ops [⟨(some 21), none, (.ent (.t 18))⟩,
          ⟨(some 22), none, (.ext 0 (.t 21))⟩,
          ⟨(some 8), none, (.mov (.t 22))⟩])
        (.ops [⟨(some 23), none, (.mov (.t 7))⟩,
          ⟨(some 24), none, (.mov (.t 8))⟩,
          ⟨(some 25), none, (.bsl 1 [[(.int .i64 0)]] [(0, (.t 24))])⟩,
          ⟨(some 26), none, (.apm 1 8 (.t 23) (.t 25) 7)⟩,
          ⟨(some 7), none, (.mov (.t 26))⟩]))))))))
  (.seq (.ops [⟨(some 27), none, (.mov (.t 7))⟩,
    ⟨(some 28), none, (.callF 88 [(.t 27)])⟩])
  (.seq (.seq (.frz (.t 7))
  (.ops [⟨(some 29), none, (.mov (.t 7))⟩,
    ⟨(some 4), none, (.mov (.t 29))⟩,
    ⟨(some 5), none, (.mov (.k (.int .i64 0)))⟩]))
  .ret))))))⟩
def hint36 (P : Program) : Hint := { site := [(26, 7)], nils := [], frz := [(29, 7)], mve := [], wr := [26] }
/-- The holders, in order. -/
def isHolders (c : Chn) (day : Int) (l : List Int) : Prop := l.Pairwise (· < ·) ∧ ∀ w, w ∈ l ↔ holdC c day w
def HolP (c : Chn) (day : Int) (l : List Int) : Prop := if askE c day = 0 then isHolders c day l else l = []
theorem nd_len : ∀ (l m : List Int), l.Nodup → (∀ x ∈ l, x ∈ m) → l.length ≤ m.length
  | [], m, _, _ => Nat.zero_le _
  | a :: l, m, hn, h => by
    rw [List.nodup_cons] at hn
    have ha := h a (by simp)
    have := nd_len l (m.erase a) hn.2 fun x hx => (List.mem_erase_of_ne (by rintro rfl; exact hn.1 hx)).2 (h x (by simp [hx]))
    rw [List.length_erase_of_mem ha] at this
    have := List.length_pos_of_mem ha
    simp only [List.length_cons]; omega
theorem whoAt_mem (c : Chn) (o : List Int) (j : Nat) : whoAt c o j = c.maker ∨ (∃ l ∈ c.ls, whoAt c o j = l.t) ∨ whoAt c o j = 0 := by
  cases j with
  | zero => exact .inl rfl
  | succ k =>
    right
    show (∃ l ∈ c.ls, ((c.ls[(getI o (k : Int)).toNat]?).getD ⟨0, 0, 0, 0⟩).t = l.t) ∨ ((c.ls[(getI o (k : Int)).toNat]?).getD ⟨0, 0, 0, 0⟩).t = 0
    cases h : c.ls[(getI o (k : Int)).toNat]? with
    | none => exact .inr rfl
    | some l => exact .inl ⟨l, List.mem_of_getElem? h, rfl⟩
theorem holdC_len {c : Chn} {day : Int} {l : List Int} (hn : c.ls.length ≤ 7) (hnd : l.Nodup) (hm : ∀ w, w ∈ l ↔ holdC c day w) : l.length ≤ 10 := by
  have hsub : ∀ w ∈ l, w ∈ (-1 : Int) :: 0 :: c.maker :: c.ls.map (·.t) := by
    intro w hw
    obtain ⟨x, _, h⟩ := (hm w).1 hw
    rcases h with ⟨rfl, _⟩ | ⟨j, _, rfl, _⟩
    · simp
    · rcases whoAt_mem c x.1 j with h | ⟨y, hy, h⟩ | h
      · rw [h]; simp
      · rw [h]; simp only [List.mem_cons, List.mem_map]; exact .inr (.inr (.inr ⟨y, hy, rfl⟩))
      · rw [h]; simp
  have := nd_len _ _ hnd hsub
  simp at this; omega
theorem erase_perm {l : List Int} {j : Nat} {a : Int} (h : l[j]? = some a) : List.Perm (a :: l.eraseIdx j) l := by
  obtain ⟨hl, rfl⟩ := List.getElem?_eq_some_iff.1 h
  have h1 : l = l.take j ++ l[j] :: l.drop (j + 1) := by rw [List.getElem_cons_drop, List.take_append_drop]
  rw [List.eraseIdx_eq_take_drop_succ]
  exact (List.perm_middle.symm).trans (by rw [← h1])
theorem w_frzN {P : Program} {Q : Post} {e : Nat → AV} {σ : Sig} {t : Nat} (h : e t = .nsl) (hk : Q .nor e σ) : awp P (.frz (.t t)) Q e σ := by
  show frzW (e t) e σ (Q .nor)
  rw [h]; exact hk
def accV (xs : List Int) (g : Nat) : AV := match xs with
  | [] => .nsl
  | _ :: _ => .msl 7 g xs.length 1
def accS (xs : List Int) (g : Nat) : List (Nat × (Nat × Res)) := match xs with
  | [] => []
  | _ :: _ => [(7, (g, .row (xs.map (AV.int .i64))))]
theorem srt_lt {xs ys : List Int} (h : SrtP xs ys) (hn : xs.Nodup) : ys.Pairwise (· < ·) := by
  have h2 := h.1.nodup_iff.2 hn
  have h1 := h.2
  clear h
  induction ys with
  | nil => exact .nil
  | cons a r ih =>
    rw [List.pairwise_cons] at h1 ⊢
    rw [List.nodup_cons] at h2
    refine ⟨fun b hb => ?_, ih h2.2 h1.2⟩
    have := h1.1 b hb
    have hne : a ≠ b := by rintro rfl; exact h2.1 hb
    omega
theorem Holders_s (c : Chn) (day : Int) (hl : c.ls.length < 1000) : Fn0 Try.prog 36 [cA c, .int .i64 day] (fun v => ∃ l a, v = .tup [a, .int .i64 (askE c day)] ∧ NowV a l ∧ HolP c day l) := by
  by_cases ha : askE c day = 0
  case neg =>
    refine RawC.walk (H := hint36 Try.prog) ir36 Try.func36 rfl rfl rfl ?_
    unfold ir36
    repeat' (first
      | with_reducible (first | refine Rd.p ?_ | refine w_alt ?_ ?_ | refine zE ?_ | refine zE0 ?_)
      | with_reducible (first | refine zI fun y hy => ?_ | refine zL ?_ | refine zS ?_ | refine zA fun _ => ?_ | refine zV ?_ | refine zC ?_ | refine zG ?_ | refine zU ?_ | refine zG0 ?_ | refine zU0 ?_ | refine zF ?_)
      | ((with_reducible refine acall_id ?_); refine ACall.val (asked_s c day hl) rfl rfl ?_)
      | with_reducible (first | refine zX ?_ | refine zD fun _ => ?_ | refine zD0 ?_ | refine zN ?_ | refine zF0 ?_ | refine zX0 ?_ | refine z1 ?_ | refine z2 ?_ | refine z3 ?_ | refine z4 ?_ | refine z5 ?_ | refine z6 ?_ | refine z7 ?_ | refine z8 ?_ | refine y1 ?_ | refine y2 ?_ | refine y3 ?_ | refine y4 ?_ | refine y5 ?_ | refine y6 ?_ | refine y7 ?_ | refine y8 ?_ | refine Rt.p (fun _ => ?_) fun _ => ?_)
      | ((with_reducible apply w_ixM); (focus exact rfl); (focus exact rfl); case' hk => intro y hy) | ((with_reducible (first | apply w_val | apply q_ends)); (focus exact rfl)))
    exact ⟨[], _, rfl, .inl ⟨rfl, rfl⟩, by rw [HolP, if_neg ha]⟩
  have he : chainE c = 0 := by
    unfold askE at ha
    split at ha
    · assumption
    · rename_i h; exact absurd ha h
  have ok := formE_0 (chainE_0 he).1
  refine RawC.walk (H := hint36 Try.prog) ir36 Try.func36 rfl rfl rfl ?_
  unfold ir36
  repeat' (first
    | with_reducible (first | refine Rd.p ?_ | refine w_alt ?_ ?_ | refine zE ?_ | refine zE0 ?_)
    | with_reducible (first | refine zI fun y hy => ?_ | refine zL ?_ | refine zS ?_ | refine zA fun _ => ?_ | refine zV ?_ | refine zC ?_ | refine zG ?_ | refine zU ?_ | refine zG0 ?_ | refine zU0 ?_ | refine zF ?_)
    | ((with_reducible refine acall_id ?_); refine ACall.val (asked_s c day hl) rfl rfl ?_)
    | ((with_reducible refine acall_id ?_); refine ACall.fn0 (holders_s c day he) rfl ?_; rintro _ ⟨l, rfl, hnd, hm⟩)
    | with_reducible (first | refine zX ?_ | refine zD fun _ => ?_ | refine zD0 ?_ | refine zN ?_ | refine zF0 ?_ | refine zX0 ?_ | refine z1 ?_ | refine z2 ?_ | refine z3 ?_ | refine z4 ?_ | refine z5 ?_ | refine z6 ?_ | refine z7 ?_ | refine z8 ?_ | refine y1 ?_ | refine y2 ?_ | refine y3 ?_ | refine y4 ?_ | refine y5 ?_ | refine y6 ?_ | refine y7 ?_ | refine y8 ?_ | refine Rt.p (fun _ => ?_) fun _ => ?_)
    | ((with_reducible apply w_ixM); (focus exact rfl); (focus exact rfl); case' hk => intro y hy) | ((with_reducible (first | apply w_val | apply q_ends)); (focus exact rfl)))
  rename_i g2 g18
  have hll := holdC_len ok.n hnd hm
  refine w_loopK [18] [] (fun x : List Int × List Int × Nat × List AV => List.Perm (x.2.1 ++ x.1) l) (fun x => x.1.length) (fun x => [(7, accV x.2.1 x.2.2.1)]) (fun x => [(18, (g18, .row [.itv x.2.2.2 (x.1.map (AV.int .i64)) (trueL x.1)]))] ++ accS x.2.1 x.2.2.1) (l, [], 0, []) (.refl _) ⟨rfl, trivial⟩ (by exact ⟨rfl, trivial⟩) ?_
  rintro ⟨rem, acc, g, cur⟩ hp e σ
  dsimp only at hp ⊢
  have hpl := hp.length_eq
  rw [List.length_append] at hpl
  cases rem with
  | nil =>
    rw [List.append_nil] at hp
    cases acc with
    | nil =>
      repeat' (first
        | with_reducible (first | refine Rd.p ?_ | refine w_alt ?_ ?_ | refine zE ?_ | refine zE0 ?_)
        | (refine w_nxtE rfl rfl ?_)
        | with_reducible (first | refine zI fun y hy => ?_ | refine zL ?_ | refine zS ?_ | refine zA fun _ => ?_ | refine zV ?_ | refine zC ?_ | refine zG ?_ | refine zU ?_ | refine zG0 ?_ | refine zU0 ?_ | refine zF ?_)
        | ((with_reducible refine acall_id ?_); refine ACall.val sort0_s rfl rfl ?_)
        | (refine w_frzN rfl ?_)
        | with_reducible (first | refine zX ?_ | refine zD fun _ => ?_ | refine zD0 ?_ | refine zN ?_ | refine zF0 ?_ | refine zX0 ?_ | refine z1 ?_ | refine z2 ?_ | refine z3 ?_ | refine z4 ?_ | refine z5 ?_ | refine z6 ?_ | refine z7 ?_ | refine z8 ?_ | refine y1 ?_ | refine y2 ?_ | refine y3 ?_ | refine y4 ?_ | refine y5 ?_ | refine y6 ?_ | refine y7 ?_ | refine y8 ?_ | refine Rt.p (fun _ => ?_) fun _ => ?_)
        | ((with_reducible apply w_ixM); (focus exact rfl); (focus exact rfl); case' hk => intro y hy) | ((with_reducible (first | apply w_val | apply q_ends)); (focus exact rfl)))
      refine ⟨[], _, by rw [ha]; rfl, .inl ⟨rfl, rfl⟩, ?_⟩
      rw [HolP, if_pos ha]
      exact ⟨.nil, fun w => by rw [← hm, hp.mem_iff]⟩
    | cons a r =>
      have hlr : (a :: r).length = r.length + 1 := rfl
      repeat' (first
        | with_reducible (first | refine Rd.p ?_ | refine w_alt ?_ ?_ | refine zE ?_ | refine zE0 ?_)
        | (refine w_nxtE rfl rfl ?_)
        | with_reducible (first | refine zI fun y hy => ?_ | refine zL ?_ | refine zS ?_ | refine zA fun _ => ?_ | refine zV ?_ | refine zC ?_ | refine zG ?_ | refine zU ?_ | refine zG0 ?_ | refine zU0 ?_ | refine zF ?_)
        | ((with_reducible refine acall_id ?_); (refine sort_call (a :: r) _ (by simp at hpl ⊢; omega) rfl rfl ?_; intro ys hys))
        | (refine w_frzI rfl rfl (by rw [hys.1.length_eq]) ?_)
        | with_reducible (first | refine zX ?_ | refine zD fun _ => ?_ | refine zD0 ?_ | refine zN ?_ | refine zF0 ?_ | refine zX0 ?_ | refine z1 ?_ | refine z2 ?_ | refine z3 ?_ | refine z4 ?_ | refine z5 ?_ | refine z6 ?_ | refine z7 ?_ | refine z8 ?_ | refine y1 ?_ | refine y2 ?_ | refine y3 ?_ | refine y4 ?_ | refine y5 ?_ | refine y6 ?_ | refine y7 ?_ | refine y8 ?_ | refine Rt.p (fun _ => ?_) fun _ => ?_)
        | ((with_reducible apply w_ixM); (focus exact rfl); (focus exact rfl); case' hk => intro y hy) | ((with_reducible (first | apply w_val | apply q_ends)); (focus exact rfl)))
      refine ⟨ys, _, by rw [ha]; rfl, .inr ⟨rfl, fun h => by have := hys.1.length_eq; rw [h] at this; simp at this⟩, ?_⟩
      rw [HolP, if_pos ha]
      exact ⟨srt_lt hys (hp.nodup_iff.2 hnd), fun w => by rw [hys.1.mem_iff, hp.mem_iff, hm]⟩
  | cons b rem =>
    simp only [List.length_cons] at hpl
    cases acc with
    | nil =>
      repeat' (first
        | with_reducible (first | refine Rd.p ?_ | refine w_alt ?_ ?_ | refine zE ?_ | refine zE0 ?_)
        | (refine w_nxtC (AV.int .i64) (fun _ => .bool true) rfl rfl (by simp) ?_; intro j a hj)
        | (refine w_apmN rfl rfl ?_; intro _)
        | with_reducible (first | refine zI fun y hy => ?_ | refine zL ?_ | refine zS ?_ | refine zA fun _ => ?_ | refine zV ?_ | refine zC ?_ | refine zG ?_ | refine zU ?_ | refine zG0 ?_ | refine zU0 ?_ | refine zF ?_)
        | with_reducible (first | refine zX ?_ | refine zD fun _ => ?_ | refine zD0 ?_ | refine zN ?_ | refine zF0 ?_ | refine zX0 ?_ | refine z1 ?_ | refine z2 ?_ | refine z3 ?_ | refine z4 ?_ | refine z5 ?_ | refine z6 ?_ | refine z7 ?_ | refine z8 ?_ | refine y1 ?_ | refine y2 ?_ | refine y3 ?_ | refine y4 ?_ | refine y5 ?_ | refine y6 ?_ | refine y7 ?_ | refine y8 ?_ | refine Rt.p (fun _ => ?_) fun _ => ?_)
        | ((with_reducible apply w_ixM); (focus exact rfl); (focus exact rfl); case' hk => intro y hy) | ((with_reducible (first | apply w_val | apply q_ends)); (focus exact rfl)))
      have hjl := (List.getElem?_eq_some_iff.1 hj).1
      have hpe := erase_perm hj
      have hle := List.length_eraseIdx_of_lt hjl
      refine q_loop ((b :: rem).eraseIdx j, [a], _, [.int .i64 a, .bool true]) ?_ ?_ (by repeat' (first | exact slots_nil | apply slots_cons | rfl | (rw [map_snoc]; rfl) | (rw [len_snoc]; rfl) | (rw [hS]; rfl) | (rw [hS, map_snoc]; rfl) | (refine int_eq ?_; (try dsimp only); omega) | (refine congrArg AV.bool ?_; simp_all; done))) (by exact ⟨rfl, rfl, trivial⟩) (by repeat' (first | exact kept_nil | apply kept_cons | rfl)) (by repeat' (first | exact kept_nil | apply kept_cons | rfl))
      · exact hpe.trans (by simpa using hp)
      · dsimp only; rw [hle]; simp
    | cons a0 r =>
      simp only [List.length_cons] at hpl
      repeat' (first
        | with_reducible (first | refine Rd.p ?_ | refine w_alt ?_ ?_ | refine zE ?_ | refine zE0 ?_)
        | (refine w_nxtC (AV.int .i64) (fun _ => .bool true) rfl rfl (by simp) ?_; intro j a hj)
        | (refine w_apmI rfl rfl rfl (by simp; omega) rfl ?_; intro _)
        | with_reducible (first | refine zI fun y hy => ?_ | refine zL ?_ | refine zS ?_ | refine zA fun _ => ?_ | refine zV ?_ | refine zC ?_ | refine zG ?_ | refine zU ?_ | refine zG0 ?_ | refine zU0 ?_ | refine zF ?_)
        | with_reducible (first | refine zX ?_ | refine zD fun _ => ?_ | refine zD0 ?_ | refine zN ?_ | refine zF0 ?_ | refine zX0 ?_ | refine z1 ?_ | refine z2 ?_ | refine z3 ?_ | refine z4 ?_ | refine z5 ?_ | refine z6 ?_ | refine z7 ?_ | refine z8 ?_ | refine y1 ?_ | refine y2 ?_ | refine y3 ?_ | refine y4 ?_ | refine y5 ?_ | refine y6 ?_ | refine y7 ?_ | refine y8 ?_ | refine Rt.p (fun _ => ?_) fun _ => ?_)
        | ((with_reducible apply w_ixM); (focus exact rfl); (focus exact rfl); case' hk => intro y hy) | ((with_reducible (first | apply w_val | apply q_ends)); (focus exact rfl)))
      have hjl := (List.getElem?_eq_some_iff.1 hj).1
      have hpe := erase_perm hj
      have hle := List.length_eraseIdx_of_lt hjl
      have hal : (a0 :: r ++ [a]).length = (a0 :: r).length + 1 := by simp
      refine q_loop ((b :: rem).eraseIdx j, a0 :: (r ++ [a]), _, [.int .i64 a, .bool true]) ?_ ?_ (slots_cons ?_ slots_nil) (by exact ⟨rfl, rfl, trivial⟩) (by repeat' (first | exact kept_nil | apply kept_cons | rfl)) (by repeat' (first | exact kept_nil | apply kept_cons | rfl))
      · refine List.Perm.trans ?_ hp
        have := List.Perm.append_left (a0 :: r) hpe
        simpa using this
      · dsimp only; rw [hle]; simp
      · show AV.msl 7 _ ((a0 :: r).length + 1) 1 = AV.msl 7 _ (a0 :: (r ++ [a])).length 1
        rw [← hal]; rfl
end Go.Abs
