/- A part of the proofs of the laws of this seat: contracts of the functions that they reach, each proved of the program's form in Lean. No condition beyond those that each contract names. -/
import Derived.Test.YtcgcciegekaliaaB0
import Derived.Test.YtcgcciegekaliaaB8
import Derived.Test.YtcgcciegekaliaaB16
import Derived.Test.YtcgcciegekaliaaB33
import Derived.Test.YtcgcciegekaliaaB17
import Derived.Test.YtcgcciegekaliaaB34
import Derived.Test.YtcgcciegekaliaaB9
import Derived.Test.YtcgcciegekaliaaB10
import Derived.Test.YtcgcciegekaliaaB20
import Derived.Test.YtcgcciegekaliaaB7
import Derived.Test.YtcgcciegekaliaaB11
import Derived.Test.YtcgcciegekaliaaB12
import Derived.Test.YtcgcciegekaliaaB5
import Derived.Test.YtcgcciegekaliaaB30
import Derived.Test.YtcgcciegekaliaaB18
import Derived.Test.YtcgcciegekaliaaB19
import Derived.Test.YtcgcciegekaliaaB13
import Derived.Test.YtcgcciegekaliaaB22
import Derived.Test.YtcgcciegekaliaaB14
set_option linter.unusedVariables false
set_option linter.unusedSimpArgs false
set_option maxRecDepth 20000
set_option maxHeartbeats 4000000
/-! ### SeatTurned -/
namespace Go.Abs
open Go.Proofs
/-- aloeswood/aloeswoodlaw08.SeatTurned -/
def ir7 : IFn :=
  ⟨114, [(2, none)], (.seq (.ops [⟨(some 2), none, (.mov (.k (.bool false)))⟩])
  (.seq (.ops [⟨(some 20), none, (.mov (.t 0))⟩,
    ⟨(some 21), none, (.callF 17 [(.t 20)])⟩,
    ⟨(some 22), none, (.callF 29 [(.t 21), (.k (.int .i64 5)), (.k (.int .i64 6))])⟩,
    ⟨(some 3), none, (.new [.nsl, .nsl])⟩,
    ⟨none, none, (.st 2 (.t 3) (.t 22))⟩])
  (.seq (.ops [⟨(some 23), none, (.ld 2 true (.t 3))⟩,
    ⟨(some 24), none, (.callF 42 [(.t 23)])⟩,
    ⟨(some 4), none, (.new [.nsl, .nsl])⟩,
    ⟨none, none, (.st 2 (.t 4) (.t 24))⟩])
  (.seq (.ops [⟨(some 26), none, (.ld 2 true (.t 3))⟩,
    ⟨(some 27), none, (.callF 32 [(.t 26)])⟩,
    ⟨(some 25), none, (.mov (.t 27))⟩,
    ⟨(some 28), none, (.ext 0 (.t 25))⟩,
    ⟨(some 29), none, (.ext 1 (.t 25))⟩,
    ⟨(some 5), none, (.mov (.t 28))⟩,
    ⟨(some 6), none, (.mov (.t 29))⟩])
  (.seq (.ops [⟨(some 31), none, (.ld 2 true (.t 4))⟩,
    ⟨(some 32), none, (.callF 32 [(.t 31)])⟩,
    ⟨(some 30), none, (.mov (.t 32))⟩,
    ⟨(some 33), none, (.ext 0 (.t 30))⟩,
    ⟨(some 34), none, (.ext 1 (.t 30))⟩,
    ⟨(some 7), none, (.mov (.t 33))⟩,
    ⟨(some 8), none, (.mov (.t 34))⟩])
  (.seq (.ops [⟨(some 36), none, (.ld 2 true (.t 3))⟩,
    ⟨(some 37), none, (.callF 33 [(.t 36)])⟩,
    ⟨(some 35), none, (.mov (.t 37))⟩,
    ⟨(some 38), none, (.ext 0 (.t 35))⟩,
    ⟨(some 39), none, (.ext 1 (.t 35))⟩,
    ⟨(some 40), none, (.ext 2 (.t 35))⟩,
    ⟨(some 9), none, (.mov (.t 38))⟩,
    ⟨(some 10), none, (.mov (.t 39))⟩,
    ⟨(some 11), none, (.mov (.t 40))⟩])
  (.seq (.ops [⟨(some 42), none, (.ld 2 true (.t 4))⟩,
    ⟨(some 43), none, (.callF 33 [(.t 42)])⟩,
    ⟨(some 41), none, (.mov (.t 43))⟩,
    ⟨(some 44), none, (.ext 0 (.t 41))⟩,
    ⟨(some 45), none, (.ext 1 (.t 41))⟩,
    ⟨(some 46), none, (.ext 2 (.t 41))⟩,
    ⟨(some 12), none, (.mov (.t 44))⟩,
    ⟨(some 13), none, (.mov (.t 45))⟩,
    ⟨(some 14), none, (.mov (.t 46))⟩])
  (.seq (.seq (.ops [⟨(some 47), none, (.mov (.t 6))⟩,
    ⟨(some 48), none, (.bin .neq (.t 47) (.k (.int .i64 0)))⟩,
    ⟨(some 49), none, (.mov (.t 48))⟩,
    ⟨(some 50), (some (49, false)), (.mov (.t 8))⟩,
    ⟨(some 51), (some (49, false)), (.bin .neq (.t 50) (.k (.int .i64 0)))⟩,
    ⟨(some 52), none, (.pick (.t 49) (.k (.bool true)) (.t 51))⟩,
    ⟨(some 53), none, (.mov (.t 52))⟩,
    ⟨(some 54), (some (53, false)), (.mov (.t 5))⟩,
    ⟨(some 55), (some (53, false)), (.mov (.t 7))⟩,
    ⟨(some 56), (some (53, false)), (.bin .neq (.t 54) (.t 55))⟩,
    ⟨(some 57), none, (.pick (.t 53) (.k (.bool true)) (.t 56))⟩,
    ⟨(some 58), none, (.mov (.t 57))⟩,
    ⟨(some 59), (some (58, false)), (.mov (.t 11))⟩,
    ⟨(some 60), (some (58, false)), (.mov (.t 14))⟩,
    ⟨(some 61), (some (58, false)), (.bin .neq (.t 59) (.t 60))⟩,
    ⟨(some 62), none, (.pick (.t 58) (.k (.bool true)) (.t 61))⟩,
    ⟨(some 63), none, (.mov (.t 62))⟩,
    ⟨(some 64), (some (63, false)), (.mov (.t 10))⟩,
    ⟨(some 65), (some (63, false)), (.mov (.t 13))⟩,
    ⟨(some 66), (some (63, false)), (.bin .neq (.t 64) (.t 65))⟩,
    ⟨(some 67), none, (.pick (.t 63) (.k (.bool true)) (.t 66))⟩,
    ⟨(some 68), none, (.mov (.t 67))⟩,
    ⟨(some 69), (some (68, false)), (.mov (.t 11))⟩,
    ⟨(some 70), (some (68, false)), (.bin .eql (.t 69) (.k (.int .i64 0)))⟩,
    ⟨(some 71), (some (68, false)), (.mov (.t 70))⟩,
    ⟨(some 72), (some (71, true)), (.mov (.t 9))⟩,
    ⟨(some 73), (some (71, true)), (.len false (.t 72))⟩,
    ⟨(some 74), (some (71, true)), (.flA 0 (.t 3))⟩,
    ⟨(some 75), (some (71, true)), (.ld 1 false (.t 74))⟩,
    ⟨(some 76), (some (71, true)), (.len false (.t 75))⟩,
    ⟨(some 77), (some (71, true)), (.bin .neq (.t 73) (.t 76))⟩,
    ⟨(some 78), (some (68, false)), (.pick (.t 71) (.t 77) (.k (.bool false)))⟩,
    ⟨(some 79), none, (.pick (.t 68) (.k (.bool true)) (.t 78))⟩])
  (.cnd (.t 79)
    (.seq (.ops [⟨(some 2), none, (.mov (.k (.bool false)))⟩])
    .ret)
    .skip))
  (.seq (.ops [⟨(some 15), none, (.nil 1 15)⟩])
  (.seq (.seq (.ops [⟨(some 80), none, (.mov (.t 9))⟩,
    ⟨(some 81), none, (.len false (.t 80))⟩,
    ⟨(some 82), none, (.bin .sub (.t 81) (.k (.int .i64 1)))⟩,
    ⟨(some 16), none, (.mov (.t 82))⟩])
  (.blk 0 (.loop (.seq (.seq (.ops [⟨(some 83), none, (.mov (.t 16))⟩,
        ⟨(some 84), none, (.bin .geq (.t 83) (.k (.int .i64 0)))⟩])
      (.cnd (.t 84)
        .skip
        (.exit 0)))
      (.seq (.blk 1 (.ops [⟨(some 87), none, (.mov (.t 15))⟩,
          ⟨(some 88), none, (.mov (.t 9))⟩,
          ⟨(some 89), none, (.mov (.t 16))⟩,
          ⟨(some 90), none, (.ixA 1 (.t 88) (.t 89))⟩,
          ⟨(some 91), none, (.ld 1 false (.t 90))⟩,
          ⟨(some 92), none, (.bsl 1 [[(.int .i64 0)]] [(0, (.t 91))])⟩,
          ⟨(some 93), none, (.app 1 8 (.t 87) (.t 92) 15)⟩,
          ⟨(some 15), none, (.mov (.t 93))⟩]))
      (.ops [⟨(some 85), none, (.mov (.t 16))⟩,
        ⟨(some 86), none, (.bin .sub (.t 85) (.k (.int .i64 1)))⟩,
        ⟨(some 16), none, (.mov (.t 86))⟩]))))))
  (.seq (.seq (.ops [⟨(some 94), none, (.mov (.t 11))⟩,
    ⟨(some 95), none, (.bin .neq (.t 94) (.k (.int .i64 0)))⟩])
  (.cnd (.t 95)
    (.seq (.ops [⟨(some 96), none, (.callF 16 [])⟩,
      ⟨(some 2), none, (.mov (.t 96))⟩])
    .ret)
    .skip))
  (.seq (.ops [⟨(some 98), none, (.ld 2 true (.t 4))⟩,
    ⟨(some 99), none, (.mov (.t 15))⟩,
    ⟨(some 100), none, (.callF 37 [(.t 98), (.t 99)])⟩,
    ⟨(some 97), none, (.mov (.t 100))⟩,
    ⟨(some 101), none, (.ext 0 (.t 97))⟩,
    ⟨(some 102), none, (.ext 1 (.t 97))⟩,
    ⟨(some 103), none, (.ext 2 (.t 97))⟩,
    ⟨(some 17), none, (.mov (.t 101))⟩,
    ⟨(some 18), none, (.mov (.t 102))⟩,
    ⟨(some 19), none, (.mov (.t 103))⟩])
  (.seq (.ops [⟨(some 104), none, (.mov (.t 19))⟩,
    ⟨(some 105), none, (.bin .eql (.t 104) (.k (.int .i64 0)))⟩,
    ⟨(some 106), none, (.mov (.t 105))⟩,
    ⟨(some 107), (some (106, true)), (.mov (.t 18))⟩,
    ⟨(some 108), (some (106, true)), (.mov (.t 10))⟩,
    ⟨(some 109), (some (106, true)), (.bin .eql (.t 107) (.t 108))⟩,
    ⟨(some 110), none, (.pick (.t 106) (.t 109) (.k (.bool false)))⟩,
    ⟨(some 111), none, (.mov (.t 110))⟩,
    ⟨(some 112), (some (111, true)), (.callF 16 [])⟩,
    ⟨(some 113), none, (.pick (.t 111) (.t 112) (.k (.bool false)))⟩,
    ⟨(some 2), none, (.mov (.t 113))⟩])
  .ret)))))))))))))⟩
def hint7 (P : Program) : Hint := { site := [(93, 15)], nils := [(15, 1)], frz := [], wr := [] }

theorem gOK_inv {g : Guest} (h : gOK g = true) : (0 ≤ g.rank ∧ g.rank ≤ 9) ∧ (0 ≤ g.honour ∧ g.honour ≤ 1000) ∧ (0 ≤ g.never ∧ g.never ≤ 255) ∧ (0 ≤ g.maybe ∧ g.maybe ≤ 255) := by
  simp only [gOK, Bool.and_eq_true, inB_t] at h; exact ⟨h.1.1.1, h.1.1.2, h.1.2, h.2⟩
theorem madeG_turn {gs : List Guest} (h : madeG gs) : madeG (gs.map turnG) := by
  refine ⟨?_, fun g hg => ?_⟩
  · rw [List.map_map, List.length_map]; exact h.1
  · obtain ⟨x, hx, rfl⟩ := List.mem_map.1 hg
    have := gOK_inv (h.2 x hx)
    exact gOK_mk (by omega) this.2.1 this.2.2.1 this.2.2.2
structure rInv (r : Rule) (n : Int) : Prop where
  k : 1 ≤ r.kind ∧ r.kind ≤ 6
  a : nmV r.kind ≠ 0 → 0 ≤ r.a ∧ r.a < n
  a0 : nmV r.kind = 0 → r.a = 0
  b : nmV r.kind = 2 → 0 ≤ r.b ∧ r.b < n ∧ r.a ≠ r.b
  b0 : nmV r.kind ≠ 2 → r.b = 0
  w : 0 ≤ r.weight ∧ r.weight ≤ 1000
theorem rErr_inv {r : Rule} {n : Int} (h : rErr r n = 0) : rInv r n := by
  have hn := nmV_bd r.kind
  unfold rErr at h
  split at h
  · rename_i hk
    split at h
    · rename_i h0
      split at h
      · rename_i h1
        split at h
        · cases h
        · rename_i h2
          split at h
          · rename_i hw
            unfold argE at h0 h1
            have hk' := inB_t.1 hk
            refine ⟨hk', fun h3 => ?_, fun h3 => ?_, fun h3 => ?_, fun h3 => ?_, inB_t.1 hw⟩
            · rw [if_pos (by omega)] at h0
              split at h0
              · rename_i h4; have := inB_t.1 h4; omega
              · cases h0
            · rw [if_neg (by omega)] at h0
              split at h0
              · assumption
              · cases h0
            · rw [if_pos (by omega)] at h1
              split at h1
              · rename_i h4
                have := inB_t.1 h4
                exact ⟨by omega, by omega, fun e => h2 ⟨h3, e⟩⟩
              · cases h1
            · rw [if_neg (by omega)] at h1
              split at h1
              · assumption
              · cases h1
          · cases h
      · rename_i h1; exact absurd h h1
    · rename_i h1; exact absurd h h1
  · cases h
theorem rErr_turn {r : Rule} {n : Int} (h : rErr r n = 0) : rErr (turnR r) n = 0 := by
  have hi := rErr_inv h
  obtain ⟨k, a, b, w⟩ := r
  obtain ⟨h1, h2, h3, h4, h5, h6⟩ := hi
  dsimp only at h1 h2 h3 h4 h5 h6
  by_cases e1 : k = 1
  · subst e1
    have hn : nmV 1 = 2 := rfl
    have := h4 hn
    have := h2 (by rw [hn]; omega)
    show rErr ⟨1, b, a, w⟩ n = 0
    exact rErr_mk (by omega) (fun _ => by omega) (fun h => by rw [hn] at h; omega) (fun _ => by omega) (fun h => absurd hn h) h6
  by_cases e4 : k = 4
  · subst e4
    have hn : nmV 4 = 1 := rfl
    have hn5 : nmV 5 = 1 := rfl
    have := h2 (by rw [hn]; omega)
    have := h5 (by rw [hn]; omega)
    show rErr ⟨5, a, b, w⟩ n = 0
    exact rErr_mk (by omega) (fun _ => by omega) (fun h => by rw [hn5] at h; omega) (fun h => by rw [hn5] at h; omega) (fun h => by omega) h6
  by_cases e5 : k = 5
  · subst e5
    have hn : nmV 5 = 1 := rfl
    have hn4 : nmV 4 = 1 := rfl
    have := h2 (by rw [hn]; omega)
    have := h5 (by rw [hn]; omega)
    show rErr ⟨4, a, b, w⟩ n = 0
    exact rErr_mk (by omega) (fun _ => by omega) (fun h => by rw [hn4] at h; omega) (fun h => by rw [hn4] at h; omega) (fun h => by omega) h6
  · have : turnR ⟨k, a, b, w⟩ = ⟨k, a, b, w⟩ := by simp [turnR, e1, e4, e5]
    rw [this]; exact h
theorem turn_w (r : Rule) : (turnR r).weight = r.weight := by
  unfold turnR; split
  · rfl
  · split
    · rfl
    · split <;> rfl
theorem alw_turn {gs : List Guest} {rs : List Rule} {l : List Int} (h : isPerm gs.length l) (hr : ∀ r ∈ rs, rOK r gs.length) : alwB (gs.map turnG) (rs.map turnR) l.reverse = alwB gs rs l := by
  rw [alwB, alwB, List.all_map, Bool.eq_iff_iff, List.all_eq_true, List.all_eq_true]
  have key : ∀ r ∈ rs, (((fun r => decide (r.weight ≠ 0) || keepsB (gs.map turnG) (atL l.reverse) r) ∘ turnR) r = (decide (r.weight ≠ 0) || keepsB gs (atL l) r)) := by
    intro r hm
    show (decide ((turnR r).weight ≠ 0) || keepsB (gs.map turnG) (atL l.reverse) (turnR r)) = _
    rw [turn_w, keeps_turn h (hr r hm)]
  exact ⟨fun h1 r hm => by rw [← key r hm]; exact h1 r hm, fun h1 r hm => by rw [key r hm]; exact h1 r hm⟩
theorem wsum_map {p q : Rule → Bool} {f : Rule → Rule} : ∀ {rs : List Rule}, (∀ r ∈ rs, p (f r) = q r ∧ (f r).weight = r.weight) → wsum p (rs.map f) = wsum q rs
  | [], _ => rfl
  | r :: rs, h => by
    obtain ⟨h1, h2⟩ := h r (by simp)
    rw [List.map_cons, wsum, wsum, h1, h2, wsum_map fun x hx => h x (by simp [hx])]
theorem pr_turn {gs : List Guest} {rs : List Rule} {l : List Int} (h : isPerm gs.length l) (hr : ∀ r ∈ rs, rOK r gs.length) : prS (gs.map turnG) (rs.map turnR) l.reverse = prS gs rs l :=
  wsum_map fun r hm => ⟨by rw [keeps_turn h (hr r hm)], turn_w r⟩
theorem mem_okL {gs : List Guest} {rs : List Rule} {l : List Int} : l ∈ okL gs rs ↔ isPerm gs.length l ∧ alwB gs rs l = true := by
  rw [show okL gs rs = (perms gs.length).filter (alwB gs rs) from rfl, List.mem_filter, mem_perms]
theorem okL_turn {gs : List Guest} {rs : List Rule} (hr : ∀ r ∈ rs, rOK r gs.length) : (okL (gs.map turnG) (rs.map turnR)).length = (okL gs rs).length := by
  rw [show okL (gs.map turnG) (rs.map turnR) = (perms (gs.map turnG).length).filter (alwB (gs.map turnG) (rs.map turnR)) from rfl, List.length_map]
  exact count_bij List.reverse (fun l h => h.rev) (fun a b _ _ e => List.reverse_inj.1 e) (fun l h => ⟨l.reverse, h.rev, List.reverse_reverse l⟩) _ _ fun l h => alw_turn h hr
theorem back_step {l : List Int} {k : Nat} (h0 : 0 < k) (hk : k ≤ l.length) : (l.drop k).reverse ++ [getI l ((k : Int) - 1)] = (l.drop (k - 1)).reverse := by
  obtain ⟨j, rfl⟩ : ∃ j, k = j + 1 := ⟨k - 1, by omega⟩
  have e : (((j + 1 : Nat) : Int) - 1) = (j : Nat) := by omega
  rw [e, getI_nat (by omega), Nat.add_sub_cancel, List.drop_eq_getElem_cons (i := j) (by omega), List.reverse_cons]
theorem seatTurned_c (nums : List Int) (hn : nums.length < 2 ^ 62) : Fn0 Try.prog 7 [.slc 1 (iR nums) .non] (fun v => v = .bool true) := by
  refine RawC.walk (H := hint7 Try.prog) ir7 Try.func7 rfl rfl rfl ?_
  unfold ir7
  repeat' (first
    | with_reducible (first | refine Rd.p ?_ | refine zE ?_ | refine zE0 ?_)
    | with_reducible (first | refine zI fun y hy => ?_ | refine zL ?_ | refine zS ?_ | refine zA fun _ => ?_ | refine zV ?_ | refine zC ?_ | refine zG ?_ | refine zU ?_ | refine zG0 ?_ | refine zU0 ?_ | refine zF ?_)
    | ((with_reducible refine acall_id ?_); refine ACall.liftS (boxOf_s nums hn) [] (some 6) rfl rfl rfl trivial (fun _ => rfl) ?_; rintro ⟨gb, w⟩ _ rfl)
    | ((with_reducible refine acall_id ?_); refine ACall.box (partyOf_c _ _ 5 6 (by omega) (by omega)) rfl rfl rfl ?_; rintro _ _ ⟨gs, rs, rfl, hm⟩)
    | with_reducible (first | refine zX ?_ | refine zD fun _ => ?_ | refine zD0 ?_ | refine zN ?_ | refine zF0 ?_ | refine zX0 ?_ | refine z1 ?_ | refine z2 ?_ | refine z3 ?_ | refine z4 ?_ | refine z5 ?_ | refine z6 ?_ | refine z7 ?_ | refine z8 ?_ | refine y1 ?_ | refine y2 ?_ | refine y3 ?_ | refine y4 ?_ | refine y5 ?_ | refine y6 ?_ | refine y7 ?_ | refine y8 ?_ | refine Rt.p (fun _ => ?_) fun _ => ?_)
    | ((with_reducible apply w_ixM); (focus exact rfl); (focus exact rfl); case' hk => intro y hy) | ((with_reducible (first | apply w_val | apply q_ends)); (focus exact rfl)))
  have g1 := hm.g1
  have gn := hm.gn
  have rn := hm.rn
  have hT : Fn0 Try.prog 42 [pA gs rs] (fun v => v = pA (gs.map turnG) (rs.map turnR)) := by
    have hrk : ∀ g ∈ gs, 0 ≤ g.rank ∧ g.rank ≤ 9 := fun g hg => (gOK_inv (hm.g.2 g hg)).1
    cases gs with
    | nil => simp at g1
    | cons g0 gs =>
      cases rs with
      | nil => exact turned0_c g0 gs (by simp at gn; omega) hrk
      | cons r0 rs => exact turned_c g0 gs r0 rs (by simp at gn; omega) (by simp at rn; omega) hrk
  have hsz : ∀ x ∈ gs, x.name.size ≤ 1000 := fun x hx => by have := (madeG_ok hm.g).2 x hx; omega
  have hgm := madeG_turn hm.g
  have hsz2 : ∀ x ∈ gs.map turnG, x.name.size ≤ 1000 := fun x hx => by have := (madeG_ok hgm).2 x hx; omega
  have hk := pErr_made hm.g g1 (by omega) (by omega) hm.r
  have hl1 : (gs.map turnG).length = gs.length := List.length_map ..
  have hl2 : (rs.map turnR).length = rs.length := List.length_map ..
  have hk2 : pErr (gs.map turnG) (rs.map turnR) = 0 := pErr_made hgm (by omega) (by omega) (by omega) fun r hr => by
    obtain ⟨x, hx, rfl⟩ := List.mem_map.1 hr
    rw [hl1]; exact rErr_turn (hm.r x hx)
  have hrok : ∀ r ∈ rs, rOK r gs.length := fun r hr => rOK_of (hm.r r hr)
  have hC := Count_c gs rs (by omega) (by omega) hsz
  have hC2 := Count_c (gs.map turnG) (rs.map turnR) (by omega) (by omega) hsz2
  have hB := Best_c gs rs (by omega) (by omega) hsz
  have hB2 := Best_c (gs.map turnG) (rs.map turnR) (by omega) (by omega) hsz2
  rw [if_pos hk, hk] at hC
  rw [if_pos hk2, hk2, okL_turn hrok] at hC2
  have hlen := okL_turn (gs := gs) hrok
  rcases bestP_cases hk with ⟨h1, h2⟩ | ⟨l, h1, h2, h3⟩ <;> rcases bestP_cases hk2 with ⟨k1, k2⟩ | ⟨l2, k1, k2, k3⟩
  · rw [h2] at hB; rw [k2] at hB2
    dsimp only [optV] at hB hB2
    repeat' (first
      | with_reducible (first | refine Rd.p ?_ | refine zE ?_ | refine zE0 ?_)
      | with_reducible (first | refine zI fun y hy => ?_ | refine zL ?_ | refine zS ?_ | refine zA fun _ => ?_ | refine zV ?_ | refine zC ?_ | refine zG ?_ | refine zU ?_ | refine zG0 ?_ | refine zU0 ?_ | refine zF ?_)
      | ((with_reducible refine acall_id ?_); refine ACall.val hT rfl rfl ?_)
      | ((with_reducible refine acall_id ?_); refine ACall.val hC rfl rfl ?_)
      | ((with_reducible refine acall_id ?_); refine ACall.val hC2 rfl rfl ?_)
      | ((with_reducible refine acall_id ?_); refine ACall.val hB rfl rfl ?_)
      | ((with_reducible refine acall_id ?_); refine ACall.val hB2 rfl rfl ?_)
      | with_reducible (first | refine zX ?_ | refine zD fun _ => ?_ | refine zD0 ?_ | refine zN ?_ | refine zF0 ?_ | refine zX0 ?_ | refine z1 ?_ | refine z2 ?_ | refine z3 ?_ | refine z4 ?_ | refine z5 ?_ | refine z6 ?_ | refine z7 ?_ | refine z8 ?_ | refine y1 ?_ | refine y2 ?_ | refine y3 ?_ | refine y4 ?_ | refine y5 ?_ | refine y6 ?_ | refine y7 ?_ | refine y8 ?_ | refine Rt.p (fun _ => ?_) fun _ => ?_)
      | ((with_reducible apply w_ixM); (focus exact rfl); (focus exact rfl); case' hk => intro y hy) | ((with_reducible (first | apply w_val | apply q_ends)); (focus exact rfl)))
    rename_i g15
    refine w_loopK [4, 9, 10, 11] [4] (fun x : Unit => True) (fun x => 0) (fun x => [(16, .int .i64 (0 - 1)), (15, .slc 1 [] (.own 15 g15))]) (fun x => [(15, (g15, .row []))]) () trivial ⟨rfl, rfl, trivial⟩ ⟨rfl, trivial⟩ ?_
    rintro _ _ e2 σ2
    repeat' (first
      | with_reducible (first | refine Rd.p ?_ | refine zE ?_ | refine zE0 ?_)
      | with_reducible (first | refine zI fun y hy => ?_ | refine zL ?_ | refine zS ?_ | refine zA fun _ => ?_ | refine zV ?_ | refine zC ?_ | refine zG ?_ | refine zU ?_ | refine zG0 ?_ | refine zU0 ?_ | refine zF ?_)
      | ((with_reducible refine acall_id ?_); refine ACall.val awake_c rfl rfl ?_)
      | with_reducible (first | refine zX ?_ | refine zD fun _ => ?_ | refine zD0 ?_ | refine zN ?_ | refine zF0 ?_ | refine zX0 ?_ | refine z1 ?_ | refine z2 ?_ | refine z3 ?_ | refine z4 ?_ | refine z5 ?_ | refine z6 ?_ | refine z7 ?_ | refine z8 ?_ | refine y1 ?_ | refine y2 ?_ | refine y3 ?_ | refine y4 ?_ | refine y5 ?_ | refine y6 ?_ | refine y7 ?_ | refine y8 ?_ | refine Rt.p (fun _ => ?_) fun _ => ?_)
      | ((with_reducible apply w_ixM); (focus exact rfl); (focus exact rfl); case' hk => intro y hy) | ((with_reducible (first | apply w_val | apply q_ends)); (focus exact rfl)))
    rfl
  · exfalso; have hp := List.length_pos_of_mem k1; rw [hlen, h1] at hp; exact absurd hp (by simp)
  · exfalso; have hp := List.length_pos_of_mem h1; rw [← hlen, k1] at hp; exact absurd hp (by simp)
  · have hp1 := (mem_okL.1 h1).1
    have hp2 : isPerm gs.length l2 := by have := (mem_okL.1 k1).1; rwa [hl1] at this
    have a1 := (mem_okL.1 h1).2
    have a2 := (mem_okL.1 k1).2
    have m1 : l.reverse ∈ okL (gs.map turnG) (rs.map turnR) := mem_okL.2 ⟨by rw [hl1]; exact hp1.rev, by rw [alw_turn hp1 hrok]; exact a1⟩
    have m2 : l2.reverse ∈ okL gs rs := mem_okL.2 ⟨hp2.rev, by
      have := alw_turn hp2.rev hrok
      rw [List.reverse_reverse] at this
      rw [← this]; exact a2⟩
    have e1 := k3 _ m1
    rw [pr_turn hp1 hrok] at e1
    have e2 := h3 _ m2
    have e3 : prS (gs.map turnG) (rs.map turnR) l2 = prS gs rs l2.reverse := by
      have := pr_turn (l := l2.reverse) hp2.rev hrok
      rwa [List.reverse_reverse] at this
    have hpe : prS (gs.map turnG) (rs.map turnR) l2 = prS gs rs l := by omega
    rw [h2] at hB; rw [k2] at hB2
    dsimp only [optV] at hB hB2
    rw [hpe] at hB2
    have hll := hp1.len
    have hP := Price_c (gs.map turnG) (rs.map turnR) l.reverse (by omega) (by omega) hsz2 (by rw [List.length_reverse]; omega)
    have hpp : priceP (gs.map turnG) (rs.map turnR) l.reverse = (some (plcF (brP (gs.map turnG) l.reverse) 0 (rs.map turnR)), prS gs rs l, 0) := by
      rw [priceP, if_pos hk2, if_pos ⟨by rw [List.length_reverse, hl1, hll], by rw [hl1]; exact (ordB_perm (by rw [List.length_reverse, hll])).2 hp1.rev⟩, pr_turn hp1 hrok]
    rw [hpp] at hP
    dsimp only [optV] at hP
    repeat' (first
      | with_reducible (first | refine Rd.p ?_ | refine zE ?_ | refine zE0 ?_)
      | with_reducible (first | refine zI fun y hy => ?_ | refine zL ?_ | refine zS ?_ | refine zA fun _ => ?_ | refine zV ?_ | refine zC ?_ | refine zG ?_ | refine zU ?_ | refine zG0 ?_ | refine zU0 ?_ | refine zF ?_)
      | ((with_reducible refine acall_id ?_); refine ACall.val hT rfl rfl ?_)
      | ((with_reducible refine acall_id ?_); refine ACall.val hC rfl rfl ?_)
      | ((with_reducible refine acall_id ?_); refine ACall.val hC2 rfl rfl ?_)
      | ((with_reducible refine acall_id ?_); refine ACall.val hB rfl rfl ?_)
      | ((with_reducible refine acall_id ?_); refine ACall.val hB2 rfl rfl ?_)
      | with_reducible (first | refine zX ?_ | refine zD fun _ => ?_ | refine zD0 ?_ | refine zN ?_ | refine zF0 ?_ | refine zX0 ?_ | refine z1 ?_ | refine z2 ?_ | refine z3 ?_ | refine z4 ?_ | refine z5 ?_ | refine z6 ?_ | refine z7 ?_ | refine z8 ?_ | refine y1 ?_ | refine y2 ?_ | refine y3 ?_ | refine y4 ?_ | refine y5 ?_ | refine y6 ?_ | refine y7 ?_ | refine y8 ?_ | refine Rt.p (fun _ => ?_) fun _ => ?_)
      | ((with_reducible apply w_ixM); (focus exact rfl); (focus exact rfl); case' hk => intro y hy) | ((with_reducible (first | apply w_val | apply q_ends)); (focus exact rfl)))
    rename_i g15
    have hd0 : l.drop l.length = [] := List.drop_length
    refine w_loopK [4, 9, 10, 11] [4] (fun x : Nat × Nat => x.1 ≤ l.length) (fun x => x.1) (fun x => [(16, .int .i64 ((x.1 : Int) - 1)), (15, .slc 1 (iR (l.drop x.1).reverse) (.own 15 x.2))]) (fun x => [(15, (x.2, .row []))]) (l.length, g15) (Nat.le_refl _) (by exact ⟨rfl, (by dsimp only; rw [hd0]; rfl), trivial⟩) ⟨rfl, trivial⟩ ?_
    rintro ⟨k, g15⟩ hkl e2 σ2
    dsimp only at hkl ⊢
    by_cases hk0 : 0 < k
    case neg =>
      obtain rfl : k = 0 := by omega
      rw [List.drop_zero]
      repeat' (first
        | with_reducible (first | refine Rd.p ?_ | refine zE ?_ | refine zE0 ?_)
        | with_reducible (first | refine zI fun y hy => ?_ | refine zL ?_ | refine zS ?_ | refine zA fun _ => ?_ | refine zV ?_ | refine zC ?_ | refine zG ?_ | refine zU ?_ | refine zG0 ?_ | refine zU0 ?_ | refine zF ?_)
        | ((with_reducible refine acall_id ?_); refine ACall.val hP rfl rfl ?_)
        | ((with_reducible refine acall_id ?_); refine ACall.val awake_c rfl rfl ?_)
        | with_reducible (first | refine zX ?_ | refine zD fun _ => ?_ | refine zD0 ?_ | refine zN ?_ | refine zF0 ?_ | refine zX0 ?_ | refine z1 ?_ | refine z2 ?_ | refine z3 ?_ | refine z4 ?_ | refine z5 ?_ | refine z6 ?_ | refine z7 ?_ | refine z8 ?_ | refine y1 ?_ | refine y2 ?_ | refine y3 ?_ | refine y4 ?_ | refine y5 ?_ | refine y6 ?_ | refine y7 ?_ | refine y8 ?_ | refine Rt.p (fun _ => ?_) fun _ => ?_)
        | ((with_reducible apply w_ixM); (focus exact rfl); (focus exact rfl); case' hk => intro y hy) | ((with_reducible (first | apply w_val | apply q_ends)); (focus exact rfl)))
      rfl
    have hbs := back_step hk0 hkl
    have hdl : (l.drop k).reverse.length = l.length - k := by simp
    repeat' (first
      | with_reducible (first | refine Rd.p ?_ | refine zE ?_ | refine zE0 ?_)
      | with_reducible refine zGi ?_
      | with_reducible (first | refine zI fun y hy => ?_ | refine zL ?_ | refine zS ?_ | refine zA fun _ => ?_ | refine zV ?_ | refine zC ?_ | refine zG ?_ | refine zU ?_ | refine zG0 ?_ | refine zU0 ?_ | refine zF ?_)
      | with_reducible (first | refine zX ?_ | refine zD fun _ => ?_ | refine zD0 ?_ | refine zN ?_ | refine zF0 ?_ | refine zX0 ?_ | refine z1 ?_ | refine z2 ?_ | refine z3 ?_ | refine z4 ?_ | refine z5 ?_ | refine z6 ?_ | refine z7 ?_ | refine z8 ?_ | refine y1 ?_ | refine y2 ?_ | refine y3 ?_ | refine y4 ?_ | refine y5 ?_ | refine y6 ?_ | refine y7 ?_ | refine y8 ?_ | refine Rt.p (fun _ => ?_) fun _ => ?_)
      | ((with_reducible apply w_ixM); (focus exact rfl); (focus exact rfl); case' hk => intro y hy) | ((with_reducible (first | apply w_val | apply q_ends)); (focus exact rfl)))
    rename_i g'
    refine q_loop (k - 1, g') ?_ ?_ (by exact ⟨int_eq (by dsimp only; omega), congrArg (fun z => AV.slc 1 (iR z) (.own 15 g')) hbs, trivial⟩) (by repeat' (first | exact slots_nil | apply slots_cons | rfl | (rw [map_snoc]; rfl) | (rw [len_snoc]; rfl) | (rw [hS]; rfl) | (rw [hS, map_snoc]; rfl) | (refine int_eq ?_; (try dsimp only); omega) | (refine congrArg AV.bool ?_; simp_all; done))) (by repeat' (first | exact kept_nil | apply kept_cons | rfl)) (by repeat' (first | exact kept_nil | apply kept_cons | rfl))
    · dsimp only; omega
    · dsimp only; omega
end Go.Abs
