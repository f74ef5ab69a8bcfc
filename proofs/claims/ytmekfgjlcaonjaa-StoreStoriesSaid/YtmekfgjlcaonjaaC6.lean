/- A part of the proofs of the laws of this seat: contracts of the functions that they reach, each proved of the program's form in Lean. No condition beyond those that each contract names. -/
import Derived.Test.YtmekfgjlcaonjaaC5
import Derived.Test.YtmekfgjlcaonjaaC4
import Derived.Test.YtmekfgjlcaonjaaC3
import Derived.Test.YtmekfgjlcaonjaaC2
import Derived.Test.YtmekfgjlcaonjaaC1
import Derived.Test.YtmekfgjlcaonjaaB
set_option linter.unusedVariables false
set_option linter.unusedSimpArgs false
set_option maxRecDepth 20000
set_option maxHeartbeats 4000000
namespace Go.Abs
open Go.Proofs
/-- aloeswood/store.asked -/
def ir86 : IFn :=
  ⟨14, [(4, none)], (.seq (.ops [⟨(some 2), none, (.box 4 (.t 0))⟩,
    ⟨(some 4), none, (.mov (.k (.int .i64 0)))⟩])
  (.seq (.seq (.ops [⟨(some 6), none, (.ld 4 true (.t 2))⟩,
    ⟨(some 7), none, (.callF 26 [(.t 6)])⟩,
    ⟨(some 5), none, (.mov (.t 7))⟩])
  (.seq (.ops [⟨(some 8), none, (.mov (.t 5))⟩,
    ⟨(some 9), none, (.bin .neq (.t 8) (.k (.int .i64 0)))⟩])
  (.cnd (.t 9)
    (.seq (.ops [⟨(some 10), none, (.mov (.t 5))⟩,
      ⟨(some 4), none, (.mov (.t 10))⟩])
    .ret)
    .skip)))
  (.seq (.seq (.ops [⟨(some 11), none, (.mov (.t 1))⟩,
    ⟨(some 12), none, (.callF 97 [(.t 11), (.k (.int .i64 0)), (.k (.int .i64 100000))])⟩,
    ⟨(some 13), none, (.not (.t 12))⟩])
  (.cnd (.t 13)
    (.seq (.ops [⟨(some 4), none, (.mov (.k (.int .i64 2)))⟩])
    .ret)
    .skip))
  (.seq (.ops [⟨(some 4), none, (.mov (.k (.int .i64 0)))⟩])
  .ret))))⟩
def hint86 (P : Program) : Hint := {}
/-- aloeswood/store.holders -/
def ir87 : IFn :=
  ⟨69, [(4, none)], (.seq (.ops [⟨(some 2), none, (.box 4 (.t 0))⟩,
    ⟨(some 3), none, (.box 1 (.t 1))⟩,
    ⟨(some 4), none, (.mov (.k .nmp))⟩])
  (.seq (.ops [⟨(some 9), none, .mkm⟩,
    ⟨(some 5), none, (.new [.nmp])⟩,
    ⟨none, none, (.st 1 (.t 5) (.t 9))⟩])
  (.seq (.seq (.ops [⟨(some 10), none, (.ld 4 true (.t 2))⟩,
    ⟨(some 11), none, (.callF 77 [(.t 10)])⟩])
  (.blk 0 (.rf (.t 11) [12] (.ops [⟨(some 6), none, (.new [.nsl, .nsl, .nsl])⟩,
        ⟨none, none, (.st 3 (.t 6) (.t 12))⟩])
      (.blk 1 (.seq (.seq (.ops [⟨(some 13), none, (.flA 2 (.t 6))⟩,
          ⟨(some 14), none, (.ld 1 false (.t 13))⟩,
          ⟨(some 15), none, (.ixA 1 (.t 14) (.k (.int .i64 0)))⟩,
          ⟨(some 16), none, (.ld 1 false (.t 15))⟩,
          ⟨(some 17), none, (.ld 1 false (.t 3))⟩,
          ⟨(some 18), none, (.bin .gtr (.t 16) (.t 17))⟩])
        (.cnd (.t 18)
          (.ops [⟨(some 19), none, (.ld 1 false (.t 5))⟩,
            ⟨none, none, (.mup .i (.t 19) (.k (.int .i64 (-1))) (.k (.bool true)))⟩])
          .skip))
        (.seq (.ops [⟨(some 20), none, (.flA 0 (.t 2))⟩,
          ⟨(some 21), none, (.ld 1 false (.t 20))⟩,
          ⟨(some 7), none, (.mov (.t 21))⟩])
        (.seq (.ops [⟨(some 22), none, (.flA 2 (.t 6))⟩,
          ⟨(some 23), none, (.ld 1 false (.t 22))⟩,
          ⟨(some 24), none, (.len false (.t 23))⟩,
          ⟨(some 25), none, (.mov (.k (.int .i64 0)))⟩])
        (.blk 2 (.loop (.seq (.ops [⟨(some 26), none, (.bin .lss (.t 25) (.t 24))⟩])
            (.seq (.cnd (.t 26)
              .skip
              (.exit 2))
            (.seq (.blk 3 (.seq (.ops [⟨(some 27), none, (.mov (.t 25))⟩,
                ⟨(some 8), none, (.mov (.t 27))⟩])
              (.seq (.seq (.ops [⟨(some 28), none, (.mov (.t 8))⟩,
                ⟨(some 29), none, (.bin .gtr (.t 28) (.k (.int .i64 0)))⟩])
              (.cnd (.t 29)
                (.ops [⟨(some 30), none, (.flA 3 (.t 2))⟩,
                  ⟨(some 31), none, (.ld 1 false (.t 30))⟩,
                  ⟨(some 32), none, (.flA 0 (.t 6))⟩,
                  ⟨(some 33), none, (.ld 1 false (.t 32))⟩,
                  ⟨(some 34), none, (.mov (.t 8))⟩,
                  ⟨(some 35), none, (.bin .sub (.t 34) (.k (.int .i64 1)))⟩,
                  ⟨(some 36), none, (.ixA 1 (.t 33) (.t 35))⟩,
                  ⟨(some 37), none, (.ld 1 false (.t 36))⟩,
                  ⟨(some 38), none, (.ixA 4 (.t 31) (.t 37))⟩,
                  ⟨(some 39), none, (.flA 1 (.t 38))⟩,
                  ⟨(some 40), none, (.ld 1 false (.t 39))⟩,
                  ⟨(some 7), none, (.mov (.t 40))⟩])
                .skip))
              (.seq (.ops [⟨(some 41), none, (.flA 1 (.t 6))⟩,
                ⟨(some 42), none, (.ld 1 false (.t 41))⟩,
                ⟨(some 43), none, (.mov (.t 8))⟩,
                ⟨(some 44), none, (.ixA 1 (.t 42) (.t 43))⟩,
                ⟨(some 45), none, (.ld 1 false (.t 44))⟩,
                ⟨(some 46), none, (.ld 1 false (.t 3))⟩,
                ⟨(some 47), none, (.bin .leq (.t 45) (.t 46))⟩,
                ⟨(some 48), none, (.mov (.t 47))⟩,
                ⟨(some 49), (some (48, true)), (.mov (.t 8))⟩,
                ⟨(some 50), (some (48, true)), (.flA 0 (.t 6))⟩,
                ⟨(some 51), (some (48, true)), (.ld 1 false (.t 50))⟩,
                ⟨(some 52), (some (48, true)), (.len false (.t 51))⟩,
                ⟨(some 53), (some (48, true)), (.bin .eql (.t 49) (.t 52))⟩,
                ⟨(some 54), (some (48, true)), (.mov (.t 53))⟩,
                ⟨(some 55), (some (54, false)), (.flA 2 (.t 6))⟩,
                ⟨(some 56), (some (54, false)), (.ld 1 false (.t 55))⟩,
                ⟨(some 57), (some (54, false)), (.mov (.t 8))⟩,
                ⟨(some 58), (some (54, false)), (.bin .add (.t 57) (.k (.int .i64 1)))⟩,
                ⟨(some 59), (some (54, false)), (.ixA 1 (.t 56) (.t 58))⟩,
                ⟨(some 60), (some (54, false)), (.ld 1 false (.t 59))⟩,
                ⟨(some 61), (some (54, false)), (.ld 1 false (.t 3))⟩,
                ⟨(some 62), (some (54, false)), (.bin .gtr (.t 60) (.t 61))⟩,
                ⟨(some 63), (some (48, true)), (.pick (.t 54) (.k (.bool true)) (.t 62))⟩,
                ⟨(some 64), none, (.pick (.t 48) (.t 63) (.k (.bool false)))⟩])
              (.cnd (.t 64)
                (.ops [⟨(some 65), none, (.ld 1 false (.t 5))⟩,
                  ⟨(some 66), none, (.mov (.t 7))⟩,
                  ⟨none, none, (.mup .i (.t 65) (.t 66) (.k (.bool true)))⟩])
                .skip)))))
            (.ops [⟨(some 67), none, (.bin .add (.t 25) (.k (.int .i64 1)))⟩,
              ⟨(some 25), none, (.mov (.t 67))⟩])))))))))))))
  (.seq (.seq (.frz (.t 9))
  (.ops [⟨(some 68), none, (.ld 1 false (.t 5))⟩,
    ⟨(some 4), none, (.mov (.t 68))⟩]))
  .ret))))⟩
def hint87 (P : Program) : Hint := { site := [], nils := [], frz := [(68, 9)], mve := [], wr := [] }
def askE (c : Chn) (day : Int) : Int := if chainE c = 0 then (if inB day 0 100000 = true then 0 else 2) else chainE c
theorem asked_s (c : Chn) (day : Int) (hl : c.ls.length < 1000) : Fn0 Try.prog 86 [cA c, .int .i64 day] (fun v => v = .int .i64 (askE c day)) := by
  refine RawC.walk (H := hint86 Try.prog) ir86 Try.func86 rfl rfl rfl ?_
  unfold ir86
  repeat' (first
    | with_reducible (first | refine Rd.p ?_ | refine w_alt ?_ ?_ | refine zE ?_ | refine zE0 ?_)
    | with_reducible (first | refine zI fun y hy => ?_ | refine zL ?_ | refine zS ?_ | refine zA fun _ => ?_ | refine zV ?_ | refine zC ?_ | refine zG ?_ | refine zU ?_ | refine zG0 ?_ | refine zU0 ?_ | refine zF ?_)
    | ((with_reducible refine acall_id ?_); refine ACall.val (check_s c hl) rfl rfl ?_)
    | ((with_reducible refine acall_id ?_); refine ACall.val (within_s _ _ _) rfl rfl ?_)
    | with_reducible (first | refine zX ?_ | refine zD fun _ => ?_ | refine zD0 ?_ | refine zN ?_ | refine zF0 ?_ | refine zX0 ?_ | refine z1 ?_ | refine z2 ?_ | refine z3 ?_ | refine z4 ?_ | refine z5 ?_ | refine z6 ?_ | refine z7 ?_ | refine z8 ?_ | refine y1 ?_ | refine y2 ?_ | refine y3 ?_ | refine y4 ?_ | refine y5 ?_ | refine y6 ?_ | refine y7 ?_ | refine y8 ?_ | refine Rt.p (fun _ => ?_) fun _ => ?_)
    | ((with_reducible apply w_ixM); (focus exact rfl); (focus exact rfl); case' hk => intro y hy) | ((with_reducible (first | apply w_val | apply q_ends)); (focus exact rfl)))
  · rename_i h; rw [askE, if_neg h]; rfl
  · rename_i h1 h2; rw [askE, if_pos (by simpa using h1), if_neg (by simp [h2])]; rfl
  · rename_i h1 h2; rw [askE, if_pos (by simpa using h1), if_pos h2]; rfl
/-- Who holds the thing behind some links of an order. -/
def whoAt (c : Chn) (o : List Int) : Nat → Int
  | 0 => c.maker
  | i + 1 => (lkAt c.ls (getI o i)).t
def holdJ (c : Chn) (day : Int) (x : List Int × List Int) (j : Nat) : Prop := getI x.2 j ≤ day ∧ (j = c.ls.length ∨ day < getI (latF c x.1) (j + 1))
/-- Who may be the holder, in a tale; -1: nobody. -/
def holdT (c : Chn) (day : Int) (x : List Int × List Int) (w : Int) : Prop := (w = -1 ∧ day < getI (latF c x.1) 0) ∨ ∃ j : Nat, j ≤ c.ls.length ∧ w = whoAt c x.1 j ∧ holdJ c day x j
def holdC (c : Chn) (day : Int) (w : Int) : Prop := ∃ x ∈ talesF c, holdT c day x w
theorem insI_nd {l : List Int} {a : Int} (h : l.Nodup) : (insI l a).Nodup := by
  unfold insI
  split
  · exact h
  · rename_i hn
    rw [List.nodup_append]
    exact ⟨h, by simp, fun x hx y hy => by simp at hy; subst hy; rintro rfl; exact hn hx⟩
theorem w_frzMG {P : Program} {Q : Post} {e : Nat → AV} {σ : Sig} {t i g : Nat} {ks vs : List AV} (F : List (Nat × AV)) (S : List (Nat × (Nat × Res))) (h1 : e t = .map i g) (hσ : σ i = (g, .row [.mpv ks vs])) (hF : slots F (frzME i g ks vs e)) (hS : slots S (frzMS i g ks vs σ))
    (hk : ∀ e' σ', Q .nor (updL F e') (updL S σ')) : awp P (.frz (.t t)) Q e σ := by
  show frzW (e t) e σ (Q .nor)
  rw [h1]
  show (match σ i with | (g', .row [.mpv ks vs]) => g = g' ∧ Q .nor (frzME i g ks vs e) (frzMS i g ks vs σ) | _ => False)
  rw [hσ]
  refine ⟨rfl, ?_⟩
  have := hk (frzME i g ks vs e) (frzMS i g ks vs σ)
  rw [updL_slots hF, updL_slots hS] at this
  exact this
theorem w_ixL {P : Program} {K : (Nat → AV) → Sig → Prop} {e : Nat → AV} {σ : Sig} {ls : List Lnk} {d : Nat} {t : Tag} {x i : IOpd} {r : List IStep} {k : IntKind} {n : Int} (hx : x.ev e = .slc 4 (lR ls) t) (hi : i.ev e = .int k n) (h : 0 ≤ n ∧ n < ls.length)
    (hk : stepsW P r K (upd e d (.pin [.int .i64 (lkAt ls n).f, .int .i64 (lkAt ls n).t, .int .i64 (lkAt ls n).lo, .int .i64 (lkAt ls n).hi])) σ) : stepsW P (⟨some d, none, .ixA 4 x i⟩ :: r) K e σ :=
  w_ixM hx hi h fun y hy => by
    have : lkAt ls n = y := by simp [lkAt, hy]
    rw [this] at hk; exact hk
theorem getI_pred (l : List Int) (k : Nat) : getI l (((k + 1 : Nat) : Int) - 1) = getI l k := by
  rw [show ((k + 1 : Nat) : Int) - 1 = (k : Int) by omega]
theorem getI_mem {l : List Int} {k : Nat} (h : k < l.length) : getI l k ∈ l := by
  unfold getI
  rw [Int.toNat_natCast, List.getElem?_eq_getElem h]; exact List.getElem_mem _
theorem holders_s (c : Chn) (day : Int) (he : chainE c = 0) : Fn0 Try.prog 87 [cA c, .int .i64 day] (fun v => ∃ l : List Int, v = .fmp (l.map (AV.int .i64)) (trueL l) ∧ l.Nodup ∧ ∀ w, w ∈ l ↔ holdC c day w) := by
  obtain ⟨hf, hne⟩ := chainE_0 he
  have ok := formE_0 hf
  have hit := tales_it c ok.n ⟨ok.m.1, ok.m.2.1⟩ ok.h
  refine RawC.walk (H := hint87 Try.prog) ir87 Try.func87 rfl rfl rfl ?_
  unfold ir87
  repeat' (first
    | with_reducible (first | refine Rd.p ?_ | refine w_alt ?_ ?_ | refine zE ?_ | refine zE0 ?_)
    | with_reducible (first | refine zI fun y hy => ?_ | refine zL ?_ | refine zS ?_ | refine zA fun _ => ?_ | refine zV ?_ | refine zC ?_ | refine zG ?_ | refine zU ?_ | refine zG0 ?_ | refine zU0 ?_ | refine zF ?_)
    | ((with_reducible refine acall_id ?_); refine ACall.val (tales_c c) rfl rfl ?_)
    | with_reducible (first | refine zX ?_ | refine zD fun _ => ?_ | refine zD0 ?_ | refine zN ?_ | refine zF0 ?_ | refine zX0 ?_ | refine z1 ?_ | refine z2 ?_ | refine z3 ?_ | refine z4 ?_ | refine z5 ?_ | refine z6 ?_ | refine z7 ?_ | refine z8 ?_ | refine y1 ?_ | refine y2 ?_ | refine y3 ?_ | refine y4 ?_ | refine y5 ?_ | refine y6 ?_ | refine y7 ?_ | refine y8 ?_ | refine Rt.p (fun _ => ?_) fun _ => ?_)
    | ((with_reducible apply w_ixM); (focus exact rfl); (focus exact rfl); case' hk => intro y hy) | ((with_reducible (first | apply w_val | apply q_ends)); (focus exact rfl)))
  rename_i g2 g3 g9 g5
  refine w_rfM (encT c) (talesF c) rfl hit (fun _ => rfl) [2, 3, 5] (fun (rest : List (List Int × List Int)) (l : List Int) => ∃ pre, talesF c = pre ++ rest ∧ l.Nodup ∧ ∀ w, w ∈ l ↔ ∃ x ∈ pre, holdT c day x w) (fun l => [(9, (g9, .row [.mpv (l.map (AV.int .i64)) (trueL l)]))]) [] ⟨[], rfl, List.nodup_nil, fun w => by simp⟩ ⟨rfl, trivial⟩ ?_ ?_
  · rintro x rest l ⟨pre, hp, hnd, hm⟩ σ'
    obtain ⟨x1, x2, x3, x4⟩ := talesF_mem (show x ∈ talesF c by rw [hp]; simp)
    have hn7 := ok.n
    -- first: nobody
    obtain ⟨l1, hl1⟩ : ∃ l1, l1 = if day < getI (latF c x.1) 0 then insI l (-1) else l := ⟨_, rfl⟩
    have hnd1 : l1.Nodup := by rw [hl1]; split; exact insI_nd hnd; exact hnd
    have hm1 : ∀ w, w ∈ l1 ↔ (∃ y ∈ pre, holdT c day y w) ∨ (w = -1 ∧ day < getI (latF c x.1) 0) := by
      intro w; rw [hl1]; split
      · rename_i h; rw [mem_insI, hm]; simp [h]
      · rename_i h; rw [hm]; simp [h]
    repeat' (first
      | with_reducible (first | refine Rd.p ?_ | refine w_alt ?_ ?_ | refine zE ?_ | refine zE0 ?_)
      | (refine w_ixG (xs := latF c x.1) rfl rfl (by omega) ?_)
      | (refine w_mupI rfl rfl rfl ?_)
      | with_reducible (first | refine zI fun y hy => ?_ | refine zL ?_ | refine zS ?_ | refine zA fun _ => ?_ | refine zV ?_ | refine zC ?_ | refine zG ?_ | refine zU ?_ | refine zG0 ?_ | refine zU0 ?_ | refine zF ?_)
      | with_reducible (first | refine zX ?_ | refine zD fun _ => ?_ | refine zD0 ?_ | refine zN ?_ | refine zF0 ?_ | refine zX0 ?_ | refine z1 ?_ | refine z2 ?_ | refine z3 ?_ | refine z4 ?_ | refine z5 ?_ | refine z6 ?_ | refine z7 ?_ | refine z8 ?_ | refine y1 ?_ | refine y2 ?_ | refine y3 ?_ | refine y4 ?_ | refine y5 ?_ | refine y6 ?_ | refine y7 ?_ | refine y8 ?_ | refine Rt.p (fun _ => ?_) fun _ => ?_)
      | ((with_reducible apply w_ixM); (focus exact rfl); (focus exact rfl); case' hk => intro y hy) | ((with_reducible (first | apply w_val | apply q_ends)); (focus exact rfl)))
    · rename_i g6 hfst
      rw [if_pos hfst] at hl1
      refine w_loopK [2, 3, 5, 6, 24] [2, 3, 5, 6] (fun z : Nat × List Int => z.1 ≤ c.ls.length + 1 ∧ z.2.Nodup ∧ ∀ w, w ∈ z.2 ↔ (∃ y ∈ pre, holdT c day y w) ∨ (w = -1 ∧ day < getI (latF c x.1) 0) ∨ ∃ j : Nat, j < z.1 ∧ w = whoAt c x.1 j ∧ holdJ c day x j) (fun z => c.ls.length + 1 - z.1) (fun z => [(25, .int .i64 z.1), (7, .int .i64 (whoAt c x.1 (z.1 - 1)))]) (fun z => [(9, (g9, .row [.mpv (z.2.map (AV.int .i64)) (trueL z.2)]))]) (0, l1) ⟨by omega, hnd1, fun w => by rw [hm1]; simp⟩ ⟨rfl, rfl, trivial⟩ (by rw [hl1]; exact ⟨rfl, trivial⟩) ?_
      rintro ⟨i, ll⟩ ⟨hi, hnd2, hm2⟩ e σ
      dsimp only at hi hnd2 hm2 ⊢
      by_cases hin : i = c.ls.length + 1
      · subst hin
        repeat' (first
          | with_reducible (first | refine Rd.p ?_ | refine w_alt ?_ ?_ | refine zE ?_ | refine zE0 ?_)
          | with_reducible (first | refine zI fun y hy => ?_ | refine zL ?_ | refine zS ?_ | refine zA fun _ => ?_ | refine zV ?_ | refine zC ?_ | refine zG ?_ | refine zU ?_ | refine zG0 ?_ | refine zU0 ?_ | refine zF ?_)
          | with_reducible (first | refine zX ?_ | refine zD fun _ => ?_ | refine zD0 ?_ | refine zN ?_ | refine zF0 ?_ | refine zX0 ?_ | refine z1 ?_ | refine z2 ?_ | refine z3 ?_ | refine z4 ?_ | refine z5 ?_ | refine z6 ?_ | refine z7 ?_ | refine z8 ?_ | refine y1 ?_ | refine y2 ?_ | refine y3 ?_ | refine y4 ?_ | refine y5 ?_ | refine y6 ?_ | refine y7 ?_ | refine y8 ?_ | refine Rt.p (fun _ => ?_) fun _ => ?_)
          | ((with_reducible apply w_ixM); (focus exact rfl); (focus exact rfl); case' hk => intro y hy) | ((with_reducible (first | apply w_val | apply q_ends)); (focus exact rfl)))
        refine q_rnd ll ⟨pre ++ [x], by rw [hp]; simp, hnd2, fun w => ?_⟩ (by repeat' (first | exact slots_nil | apply slots_cons | rfl | (rw [map_snoc]; rfl) | (rw [len_snoc]; rfl) | (rw [hS]; rfl) | (rw [hS, map_snoc]; rfl) | (refine int_eq ?_; (try dsimp only); omega) | (refine congrArg AV.bool ?_; simp_all; done))) (by repeat' (first | exact kept_nil | apply kept_cons | rfl))
        rw [hm2]
        constructor
        · rintro (⟨y, hy, h⟩ | h | ⟨j, hj, h⟩)
          · exact ⟨y, by simp [hy], h⟩
          · exact ⟨x, by simp, .inl h⟩
          · exact ⟨x, by simp, .inr ⟨j, by omega, h⟩⟩
        · rintro ⟨y, hy, h⟩
          rcases List.mem_append.1 hy with hy | hy
          · exact .inl ⟨y, hy, h⟩
          · simp at hy; subst hy
            rcases h with h | ⟨j, hj, h⟩
            · exact .inr (.inl h)
            · exact .inr (.inr ⟨j, by omega, h⟩)
      · have hput : ∀ w, holdJ c day x i → (w ∈ insI ll (whoAt c x.1 i) ↔ (∃ y ∈ pre, holdT c day y w) ∨ (w = -1 ∧ day < getI (latF c x.1) 0) ∨ ∃ j : Nat, j < i + 1 ∧ w = whoAt c x.1 j ∧ holdJ c day x j) := by
          intro w hj
          rw [mem_insI, hm2]
          constructor
          · rintro ((h | h | ⟨j, hj, h⟩) | rfl)
            · exact .inl h
            · exact .inr (.inl h)
            · exact .inr (.inr ⟨j, by omega, h⟩)
            · exact .inr (.inr ⟨i, by omega, rfl, hj⟩)
          · rintro (h | h | ⟨j, hj, h⟩)
            · exact .inl (.inl h)
            · exact .inl (.inr (.inl h))
            · by_cases hji : j = i
              · subst hji; exact .inr h.1
              · exact .inl (.inr (.inr ⟨j, by omega, h⟩))
        have hskip : ¬ holdJ c day x i → ∀ w, (w ∈ ll ↔ (∃ y ∈ pre, holdT c day y w) ∨ (w = -1 ∧ day < getI (latF c x.1) 0) ∨ ∃ j : Nat, j < i + 1 ∧ w = whoAt c x.1 j ∧ holdJ c day x j) := by
          intro hj w
          rw [hm2]
          constructor
          · rintro (h | h | ⟨j, hj, h⟩)
            · exact .inl h
            · exact .inr (.inl h)
            · exact .inr (.inr ⟨j, by omega, h⟩)
          · rintro (h | h | ⟨j, hj2, h⟩)
            · exact .inl h
            · exact .inr (.inl h)
            · by_cases hji : j = i
              · subst hji; exact absurd h.2 hj
              · exact .inr (.inr ⟨j, by omega, h⟩)
        cases i with
        | zero =>
          repeat' (first
            | with_reducible (first | refine Rd.p ?_ | refine w_alt ?_ ?_ | refine zE ?_ | refine zE0 ?_)
            | (first | refine w_ixG (xs := x.2) rfl rfl (by omega) ?_ | refine w_ixG (xs := latF c x.1) rfl rfl (by omega) ?_)
            | (refine w_mupI rfl rfl rfl ?_)
            | with_reducible (first | refine zI fun y hy => ?_ | refine zL ?_ | refine zS ?_ | refine zA fun _ => ?_ | refine zV ?_ | refine zC ?_ | refine zG ?_ | refine zU ?_ | refine zG0 ?_ | refine zU0 ?_ | refine zF ?_)
            | with_reducible (first | refine zX ?_ | refine zD fun _ => ?_ | refine zD0 ?_ | refine zN ?_ | refine zF0 ?_ | refine zX0 ?_ | refine z1 ?_ | refine z2 ?_ | refine z3 ?_ | refine z4 ?_ | refine z5 ?_ | refine z6 ?_ | refine z7 ?_ | refine z8 ?_ | refine y1 ?_ | refine y2 ?_ | refine y3 ?_ | refine y4 ?_ | refine y5 ?_ | refine y6 ?_ | refine y7 ?_ | refine y8 ?_ | refine Rt.p (fun _ => ?_) fun _ => ?_)
            | ((with_reducible apply w_ixM); (focus exact rfl); (focus exact rfl); case' hk => intro y hy) | ((with_reducible (first | apply w_val | apply q_ends)); (focus exact rfl)))
          all_goals first
            | (refine q_loop (0 + 1, insI ll (whoAt c x.1 (0))) ?_ ?_ (by repeat' (first | exact slots_nil | apply slots_cons | rfl | (rw [map_snoc]; rfl) | (rw [len_snoc]; rfl) | (rw [hS]; rfl) | (rw [hS, map_snoc]; rfl) | (refine int_eq ?_; (try dsimp only); omega) | (refine congrArg AV.bool ?_; simp_all; done))) (by repeat' (first | exact slots_nil | apply slots_cons | rfl | (rw [map_snoc]; rfl) | (rw [len_snoc]; rfl) | (rw [hS]; rfl) | (rw [hS, map_snoc]; rfl) | (refine int_eq ?_; (try dsimp only); omega) | (refine congrArg AV.bool ?_; simp_all; done))) (by repeat' (first | exact kept_nil | apply kept_cons | rfl)) (by repeat' (first | exact kept_nil | apply kept_cons | rfl))
               · exact ⟨by omega, insI_nd hnd2, fun w => hput w ⟨by first | assumption | omega, by first | (left; omega) | (right; assumption)⟩⟩
               · dsimp only; omega)
            | (refine q_loop (0 + 1, ll) ?_ ?_ (by repeat' (first | exact slots_nil | apply slots_cons | rfl | (rw [map_snoc]; rfl) | (rw [len_snoc]; rfl) | (rw [hS]; rfl) | (rw [hS, map_snoc]; rfl) | (refine int_eq ?_; (try dsimp only); omega) | (refine congrArg AV.bool ?_; simp_all; done))) (by repeat' (first | exact slots_nil | apply slots_cons | rfl | (rw [map_snoc]; rfl) | (rw [len_snoc]; rfl) | (rw [hS]; rfl) | (rw [hS, map_snoc]; rfl) | (refine int_eq ?_; (try dsimp only); omega) | (refine congrArg AV.bool ?_; simp_all; done))) (by repeat' (first | exact kept_nil | apply kept_cons | rfl)) (by repeat' (first | exact kept_nil | apply kept_cons | rfl))
               · exact ⟨by omega, hnd2, hskip fun hj => by obtain ⟨j1, j2⟩ := hj; first | (exfalso; omega) | (rcases j2 with j2 | j2 <;> first | (exfalso; omega) | contradiction)⟩
               · dsimp only; omega)
            | trace_state
        | succ k =>
          have hb := x4 _ (getI_mem (show k < x.1.length by omega))
          repeat' (first
            | with_reducible (first | refine Rd.p ?_ | refine w_alt ?_ ?_ | refine zE ?_ | refine zE0 ?_)
            | (first | (refine w_ixG (xs := x.1) rfl rfl (by omega) ?_; rw [getI_pred]) | refine w_ixG (xs := x.2) rfl rfl (by omega) ?_ | refine w_ixG (xs := latF c x.1) rfl rfl (by omega) ?_ | refine w_ixL rfl rfl hb ?_)
            | (refine w_mupI rfl rfl rfl ?_)
            | with_reducible (first | refine zI fun y hy => ?_ | refine zL ?_ | refine zS ?_ | refine zA fun _ => ?_ | refine zV ?_ | refine zC ?_ | refine zG ?_ | refine zU ?_ | refine zG0 ?_ | refine zU0 ?_ | refine zF ?_)
            | with_reducible (first | refine zX ?_ | refine zD fun _ => ?_ | refine zD0 ?_ | refine zN ?_ | refine zF0 ?_ | refine zX0 ?_ | refine z1 ?_ | refine z2 ?_ | refine z3 ?_ | refine z4 ?_ | refine z5 ?_ | refine z6 ?_ | refine z7 ?_ | refine z8 ?_ | refine y1 ?_ | refine y2 ?_ | refine y3 ?_ | refine y4 ?_ | refine y5 ?_ | refine y6 ?_ | refine y7 ?_ | refine y8 ?_ | refine Rt.p (fun _ => ?_) fun _ => ?_)
            | ((with_reducible apply w_ixM); (focus exact rfl); (focus exact rfl); case' hk => intro y hy) | ((with_reducible (first | apply w_val | apply q_ends)); (focus exact rfl)))
          all_goals first
            | (refine q_loop (k + 1 + 1, insI ll (whoAt c x.1 (k + 1))) ?_ ?_ (by repeat' (first | exact slots_nil | apply slots_cons | rfl | (rw [map_snoc]; rfl) | (rw [len_snoc]; rfl) | (rw [hS]; rfl) | (rw [hS, map_snoc]; rfl) | (refine int_eq ?_; (try dsimp only); omega) | (refine congrArg AV.bool ?_; simp_all; done))) (by repeat' (first | exact slots_nil | apply slots_cons | rfl | (rw [map_snoc]; rfl) | (rw [len_snoc]; rfl) | (rw [hS]; rfl) | (rw [hS, map_snoc]; rfl) | (refine int_eq ?_; (try dsimp only); omega) | (refine congrArg AV.bool ?_; simp_all; done))) (by repeat' (first | exact kept_nil | apply kept_cons | rfl)) (by repeat' (first | exact kept_nil | apply kept_cons | rfl))
               · exact ⟨by omega, insI_nd hnd2, fun w => hput w ⟨by first | assumption | omega, by first | (left; omega) | (right; assumption)⟩⟩
               · dsimp only; omega)
            | (refine q_loop (k + 1 + 1, ll) ?_ ?_ (by repeat' (first | exact slots_nil | apply slots_cons | rfl | (rw [map_snoc]; rfl) | (rw [len_snoc]; rfl) | (rw [hS]; rfl) | (rw [hS, map_snoc]; rfl) | (refine int_eq ?_; (try dsimp only); omega) | (refine congrArg AV.bool ?_; simp_all; done))) (by repeat' (first | exact slots_nil | apply slots_cons | rfl | (rw [map_snoc]; rfl) | (rw [len_snoc]; rfl) | (rw [hS]; rfl) | (rw [hS, map_snoc]; rfl) | (refine int_eq ?_; (try dsimp only); omega) | (refine congrArg AV.bool ?_; simp_all; done))) (by repeat' (first | exact kept_nil | apply kept_cons | rfl)) (by repeat' (first | exact kept_nil | apply kept_cons | rfl))
               · exact ⟨by omega, hnd2, hskip fun hj => by obtain ⟨j1, j2⟩ := hj; first | (exfalso; omega) | (rcases j2 with j2 | j2 <;> first | (exfalso; omega) | contradiction)⟩
               · dsimp only; omega)
            | trace_state
    · rename_i g6 hfst
      rw [if_neg hfst] at hl1
      refine w_loopK [2, 3, 5, 6, 24] [2, 3, 5, 6] (fun z : Nat × List Int => z.1 ≤ c.ls.length + 1 ∧ z.2.Nodup ∧ ∀ w, w ∈ z.2 ↔ (∃ y ∈ pre, holdT c day y w) ∨ (w = -1 ∧ day < getI (latF c x.1) 0) ∨ ∃ j : Nat, j < z.1 ∧ w = whoAt c x.1 j ∧ holdJ c day x j) (fun z => c.ls.length + 1 - z.1) (fun z => [(25, .int .i64 z.1), (7, .int .i64 (whoAt c x.1 (z.1 - 1)))]) (fun z => [(9, (g9, .row [.mpv (z.2.map (AV.int .i64)) (trueL z.2)]))]) (0, l1) ⟨by omega, hnd1, fun w => by rw [hm1]; simp⟩ ⟨rfl, rfl, trivial⟩ (by rw [hl1]; exact ⟨rfl, trivial⟩) ?_
      rintro ⟨i, ll⟩ ⟨hi, hnd2, hm2⟩ e σ
      dsimp only at hi hnd2 hm2 ⊢
      by_cases hin : i = c.ls.length + 1
      · subst hin
        repeat' (first
          | with_reducible (first | refine Rd.p ?_ | refine w_alt ?_ ?_ | refine zE ?_ | refine zE0 ?_)
          | with_reducible (first | refine zI fun y hy => ?_ | refine zL ?_ | refine zS ?_ | refine zA fun _ => ?_ | refine zV ?_ | refine zC ?_ | refine zG ?_ | refine zU ?_ | refine zG0 ?_ | refine zU0 ?_ | refine zF ?_)
          | with_reducible (first | refine zX ?_ | refine zD fun _ => ?_ | refine zD0 ?_ | refine zN ?_ | refine zF0 ?_ | refine zX0 ?_ | refine z1 ?_ | refine z2 ?_ | refine z3 ?_ | refine z4 ?_ | refine z5 ?_ | refine z6 ?_ | refine z7 ?_ | refine z8 ?_ | refine y1 ?_ | refine y2 ?_ | refine y3 ?_ | refine y4 ?_ | refine y5 ?_ | refine y6 ?_ | refine y7 ?_ | refine y8 ?_ | refine Rt.p (fun _ => ?_) fun _ => ?_)
          | ((with_reducible apply w_ixM); (focus exact rfl); (focus exact rfl); case' hk => intro y hy) | ((with_reducible (first | apply w_val | apply q_ends)); (focus exact rfl)))
        refine q_rnd ll ⟨pre ++ [x], by rw [hp]; simp, hnd2, fun w => ?_⟩ (by repeat' (first | exact slots_nil | apply slots_cons | rfl | (rw [map_snoc]; rfl) | (rw [len_snoc]; rfl) | (rw [hS]; rfl) | (rw [hS, map_snoc]; rfl) | (refine int_eq ?_; (try dsimp only); omega) | (refine congrArg AV.bool ?_; simp_all; done))) (by repeat' (first | exact kept_nil | apply kept_cons | rfl))
        rw [hm2]
        constructor
        · rintro (⟨y, hy, h⟩ | h | ⟨j, hj, h⟩)
          · exact ⟨y, by simp [hy], h⟩
          · exact ⟨x, by simp, .inl h⟩
          · exact ⟨x, by simp, .inr ⟨j, by omega, h⟩⟩
        · rintro ⟨y, hy, h⟩
          rcases List.mem_append.1 hy with hy | hy
          · exact .inl ⟨y, hy, h⟩
          · simp at hy; subst hy
            rcases h with h | ⟨j, hj, h⟩
            · exact .inr (.inl h)
            · exact .inr (.inr ⟨j, by omega, h⟩)
      · have hput : ∀ w, holdJ c day x i → (w ∈ insI ll (whoAt c x.1 i) ↔ (∃ y ∈ pre, holdT c day y w) ∨ (w = -1 ∧ day < getI (latF c x.1) 0) ∨ ∃ j : Nat, j < i + 1 ∧ w = whoAt c x.1 j ∧ holdJ c day x j) := by
          intro w hj
          rw [mem_insI, hm2]
          constructor
          · rintro ((h | h | ⟨j, hj, h⟩) | rfl)
            · exact .inl h
            · exact .inr (.inl h)
            · exact .inr (.inr ⟨j, by omega, h⟩)
            · exact .inr (.inr ⟨i, by omega, rfl, hj⟩)
          · rintro (h | h | ⟨j, hj, h⟩)
            · exact .inl (.inl h)
            · exact .inl (.inr (.inl h))
            · by_cases hji : j = i
              · subst hji; exact .inr h.1
              · exact .inl (.inr (.inr ⟨j, by omega, h⟩))
        have hskip : ¬ holdJ c day x i → ∀ w, (w ∈ ll ↔ (∃ y ∈ pre, holdT c day y w) ∨ (w = -1 ∧ day < getI (latF c x.1) 0) ∨ ∃ j : Nat, j < i + 1 ∧ w = whoAt c x.1 j ∧ holdJ c day x j) := by
          intro hj w
          rw [hm2]
          constructor
          · rintro (h | h | ⟨j, hj, h⟩)
            · exact .inl h
            · exact .inr (.inl h)
            · exact .inr (.inr ⟨j, by omega, h⟩)
          · rintro (h | h | ⟨j, hj2, h⟩)
            · exact .inl h
            · exact .inr (.inl h)
            · by_cases hji : j = i
              · subst hji; exact absurd h.2 hj
              · exact .inr (.inr ⟨j, by omega, h⟩)
        cases i with
        | zero =>
          repeat' (first
            | with_reducible (first | refine Rd.p ?_ | refine w_alt ?_ ?_ | refine zE ?_ | refine zE0 ?_)
            | (first | refine w_ixG (xs := x.2) rfl rfl (by omega) ?_ | refine w_ixG (xs := latF c x.1) rfl rfl (by omega) ?_)
            | (refine w_mupI rfl rfl rfl ?_)
            | with_reducible (first | refine zI fun y hy => ?_ | refine zL ?_ | refine zS ?_ | refine zA fun _ => ?_ | refine zV ?_ | refine zC ?_ | refine zG ?_ | refine zU ?_ | refine zG0 ?_ | refine zU0 ?_ | refine zF ?_)
            | with_reducible (first | refine zX ?_ | refine zD fun _ => ?_ | refine zD0 ?_ | refine zN ?_ | refine zF0 ?_ | refine zX0 ?_ | refine z1 ?_ | refine z2 ?_ | refine z3 ?_ | refine z4 ?_ | refine z5 ?_ | refine z6 ?_ | refine z7 ?_ | refine z8 ?_ | refine y1 ?_ | refine y2 ?_ | refine y3 ?_ | refine y4 ?_ | refine y5 ?_ | refine y6 ?_ | refine y7 ?_ | refine y8 ?_ | refine Rt.p (fun _ => ?_) fun _ => ?_)
            | ((with_reducible apply w_ixM); (focus exact rfl); (focus exact rfl); case' hk => intro y hy) | ((with_reducible (first | apply w_val | apply q_ends)); (focus exact rfl)))
          all_goals first
            | (refine q_loop (0 + 1, insI ll (whoAt c x.1 (0))) ?_ ?_ (by repeat' (first | exact slots_nil | apply slots_cons | rfl | (rw [map_snoc]; rfl) | (rw [len_snoc]; rfl) | (rw [hS]; rfl) | (rw [hS, map_snoc]; rfl) | (refine int_eq ?_; (try dsimp only); omega) | (refine congrArg AV.bool ?_; simp_all; done))) (by repeat' (first | exact slots_nil | apply slots_cons | rfl | (rw [map_snoc]; rfl) | (rw [len_snoc]; rfl) | (rw [hS]; rfl) | (rw [hS, map_snoc]; rfl) | (refine int_eq ?_; (try dsimp only); omega) | (refine congrArg AV.bool ?_; simp_all; done))) (by repeat' (first | exact kept_nil | apply kept_cons | rfl)) (by repeat' (first | exact kept_nil | apply kept_cons | rfl))
               · exact ⟨by omega, insI_nd hnd2, fun w => hput w ⟨by first | assumption | omega, by first | (left; omega) | (right; assumption)⟩⟩
               · dsimp only; omega)
            | (refine q_loop (0 + 1, ll) ?_ ?_ (by repeat' (first | exact slots_nil | apply slots_cons | rfl | (rw [map_snoc]; rfl) | (rw [len_snoc]; rfl) | (rw [hS]; rfl) | (rw [hS, map_snoc]; rfl) | (refine int_eq ?_; (try dsimp only); omega) | (refine congrArg AV.bool ?_; simp_all; done))) (by repeat' (first | exact slots_nil | apply slots_cons | rfl | (rw [map_snoc]; rfl) | (rw [len_snoc]; rfl) | (rw [hS]; rfl) | (rw [hS, map_snoc]; rfl) | (refine int_eq ?_; (try dsimp only); omega) | (refine congrArg AV.bool ?_; simp_all; done))) (by repeat' (first | exact kept_nil | apply kept_cons | rfl)) (by repeat' (first | exact kept_nil | apply kept_cons | rfl))
               · exact ⟨by omega, hnd2, hskip fun hj => by obtain ⟨j1, j2⟩ := hj; first | (exfalso; omega) | (rcases j2 with j2 | j2 <;> first | (exfalso; omega) | contradiction)⟩
               · dsimp only; omega)
            | trace_state
        | succ k =>
          have hb := x4 _ (getI_mem (show k < x.1.length by omega))
          repeat' (first
            | with_reducible (first | refine Rd.p ?_ | refine w_alt ?_ ?_ | refine zE ?_ | refine zE0 ?_)
            | (first | (refine w_ixG (xs := x.1) rfl rfl (by omega) ?_; rw [getI_pred]) | refine w_ixG (xs := x.2) rfl rfl (by omega) ?_ | refine w_ixG (xs := latF c x.1) rfl rfl (by omega) ?_ | refine w_ixL rfl rfl hb ?_)
            | (refine w_mupI rfl rfl rfl ?_)
            | with_reducible (first | refine zI fun y hy => ?_ | refine zL ?_ | refine zS ?_ | refine zA fun _ => ?_ | refine zV ?_ | refine zC ?_ | refine zG ?_ | refine zU ?_ | refine zG0 ?_ | refine zU0 ?_ | refine zF ?_)
            | with_reducible (first | refine zX ?_ | refine zD fun _ => ?_ | refine zD0 ?_ | refine zN ?_ | refine zF0 ?_ | refine zX0 ?_ | refine z1 ?_ | refine z2 ?_ | refine z3 ?_ | refine z4 ?_ | refine z5 ?_ | refine z6 ?_ | refine z7 ?_ | refine z8 ?_ | refine y1 ?_ | refine y2 ?_ | refine y3 ?_ | refine y4 ?_ | refine y5 ?_ | refine y6 ?_ | refine y7 ?_ | refine y8 ?_ | refine Rt.p (fun _ => ?_) fun _ => ?_)
            | ((with_reducible apply w_ixM); (focus exact rfl); (focus exact rfl); case' hk => intro y hy) | ((with_reducible (first | apply w_val | apply q_ends)); (focus exact rfl)))
          all_goals first
            | (refine q_loop (k + 1 + 1, insI ll (whoAt c x.1 (k + 1))) ?_ ?_ (by repeat' (first | exact slots_nil | apply slots_cons | rfl | (rw [map_snoc]; rfl) | (rw [len_snoc]; rfl) | (rw [hS]; rfl) | (rw [hS, map_snoc]; rfl) | (refine int_eq ?_; (try dsimp only); omega) | (refine congrArg AV.bool ?_; simp_all; done))) (by repeat' (first | exact slots_nil | apply slots_cons | rfl | (rw [map_snoc]; rfl) | (rw [len_snoc]; rfl) | (rw [hS]; rfl) | (rw [hS, map_snoc]; rfl) | (refine int_eq ?_; (try dsimp only); omega) | (refine congrArg AV.bool ?_; simp_all; done))) (by repeat' (first | exact kept_nil | apply kept_cons | rfl)) (by repeat' (first | exact kept_nil | apply kept_cons | rfl))
               · exact ⟨by omega, insI_nd hnd2, fun w => hput w ⟨by first | assumption | omega, by first | (left; omega) | (right; assumption)⟩⟩
               · dsimp only; omega)
            | (refine q_loop (k + 1 + 1, ll) ?_ ?_ (by repeat' (first | exact slots_nil | apply slots_cons | rfl | (rw [map_snoc]; rfl) | (rw [len_snoc]; rfl) | (rw [hS]; rfl) | (rw [hS, map_snoc]; rfl) | (refine int_eq ?_; (try dsimp only); omega) | (refine congrArg AV.bool ?_; simp_all; done))) (by repeat' (first | exact slots_nil | apply slots_cons | rfl | (rw [map_snoc]; rfl) | (rw [len_snoc]; rfl) | (rw [hS]; rfl) | (rw [hS, map_snoc]; rfl) | (refine int_eq ?_; (try dsimp only); omega) | (refine congrArg AV.bool ?_; simp_all; done))) (by repeat' (first | exact kept_nil | apply kept_cons | rfl)) (by repeat' (first | exact kept_nil | apply kept_cons | rfl))
               · exact ⟨by omega, hnd2, hskip fun hj => by obtain ⟨j1, j2⟩ := hj; first | (exfalso; omega) | (rcases j2 with j2 | j2 <;> first | (exfalso; omega) | contradiction)⟩
               · dsimp only; omega)
            | trace_state
  · rintro l ⟨pre, hp, hnd, hm⟩ σ'
    rw [List.append_nil] at hp
    subst hp
    repeat' (first
      | with_reducible (first | refine Rd.p ?_ | refine w_alt ?_ ?_ | refine zE ?_ | refine zE0 ?_)
      | with_reducible (first | refine zI fun y hy => ?_ | refine zL ?_ | refine zS ?_ | refine zA fun _ => ?_ | refine zV ?_ | refine zC ?_ | refine zG ?_ | refine zU ?_ | refine zG0 ?_ | refine zU0 ?_ | refine zF ?_)
      | (refine w_frzMG [(5, .ref 5 g5 0)] [(5, (g5, .row [.fmp (l.map (AV.int .i64)) (trueL l)]))] rfl rfl ⟨rfl, trivial⟩ ⟨frzMS_at rfl (by decide), trivial⟩ ?_; intro _ _)
      | with_reducible (first | refine zX ?_ | refine zD fun _ => ?_ | refine zD0 ?_ | refine zN ?_ | refine zF0 ?_ | refine zX0 ?_ | refine z1 ?_ | refine z2 ?_ | refine z3 ?_ | refine z4 ?_ | refine z5 ?_ | refine z6 ?_ | refine z7 ?_ | refine z8 ?_ | refine y1 ?_ | refine y2 ?_ | refine y3 ?_ | refine y4 ?_ | refine y5 ?_ | refine y6 ?_ | refine y7 ?_ | refine y8 ?_ | refine Rt.p (fun _ => ?_) fun _ => ?_)
      | ((with_reducible apply w_ixM); (focus exact rfl); (focus exact rfl); case' hk => intro y hy) | ((with_reducible (first | apply w_val | apply q_ends)); (focus exact rfl)))
    exact ⟨l, rfl, hnd, hm⟩
end Go.Abs
