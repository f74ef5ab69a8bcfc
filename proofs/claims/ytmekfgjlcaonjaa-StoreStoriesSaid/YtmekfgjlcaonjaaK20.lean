/- A part of the proofs of the laws of this seat: contracts of the functions that they reach, each proved of the program's form in Lean. No condition beyond those that each contract names. -/
import Derived.Test.YtmekfgjlcaonjaaK14
import Derived.Test.YtmekfgjlcaonjaaD1
import Derived.Test.YtmekfgjlcaonjaaC3
import Derived.Test.YtmekfgjlcaonjaaC2
import Derived.Test.YtmekfgjlcaonjaaC1
import Derived.Test.YtmekfgjlcaonjaaB
import Derived.Test.YtmekfgjlcaonjaaD8
set_option linter.unusedVariables false
set_option linter.unusedSimpArgs false
set_option maxRecDepth 20000
set_option maxHeartbeats 1000000
namespace Go.Abs
open Go.Proofs
/-- aloeswood/aloeswoodlaw09.orders -/
def ir32 : IFn :=
  ⟨45, [(2, none)], (.seq (.ops [⟨(some 2), none, (.mov (.k .nsl))⟩])
  (.seq (.ops [⟨(some 8), none, (.bsl 1 [[.nsl]] [(0, (.k .nsl))])⟩,
    ⟨(some 3), none, (.mov (.t 8))⟩])
  (.seq (.seq (.ops [⟨(some 4), none, (.mov (.k (.int .i64 0)))⟩])
  (.blk 0 (.loop (.seq (.seq (.ops [⟨(some 9), none, (.mov (.t 4))⟩,
        ⟨(some 10), none, (.mov (.t 0))⟩,
        ⟨(some 11), none, (.bin .lss (.t 9) (.t 10))⟩])
      (.cnd (.t 11)
        .skip
        (.exit 0)))
      (.seq (.blk 1 (.seq (.ops [⟨(some 5), none, (.nil 1 5)⟩])
        (.seq (.seq (.ops [⟨(some 6), none, (.mov (.k (.int .i64 0)))⟩])
        (.blk 2 (.loop (.seq (.seq (.ops [⟨(some 14), none, (.mov (.t 6))⟩,
              ⟨(some 15), none, (.mov (.t 3))⟩,
              ⟨(some 16), none, (.len false (.t 15))⟩,
              ⟨(some 17), none, (.bin .lss (.t 14) (.t 16))⟩])
            (.cnd (.t 17)
              .skip
              (.exit 2)))
            (.seq (.blk 3 (.seq (.ops [⟨(some 7), none, (.mov (.k (.int .i64 0)))⟩])
              (.blk 4 (.loop (.seq (.seq (.ops [⟨(some 20), none, (.mov (.t 7))⟩,
                    ⟨(some 21), none, (.mov (.t 0))⟩,
                    ⟨(some 22), none, (.bin .lss (.t 20) (.t 21))⟩])
                  (.cnd (.t 22)
                    .skip
                    (.exit 4)))
                  (.seq (.blk 5 (.seq (.ops [⟨(some 25), none, (.mov (.t 3))⟩,
                      ⟨(some 26), none, (.mov (.t 6))⟩,
                      ⟨(some 27), none, (.ixA 1 (.t 25) (.t 26))⟩,
                      ⟨(some 28), none, (.ld 1 false (.t 27))⟩,
                      ⟨(some 29), none, (.mov (.t 7))⟩,
                      ⟨(some 30), none, (.callF 37 [(.t 28), (.t 29)])⟩,
                      ⟨(some 31), none, (.not (.t 30))⟩])
                    (.cnd (.t 31)
                      (.ops [⟨(some 32), none, (.mov (.t 5))⟩,
                        ⟨(some 33), none, (.mov (.t 3))⟩,
                        ⟨(some 34), none, (.mov (.t 6))⟩,
                        ⟨(some 35), none, (.ixA 1 (.t 33) (.t 34))⟩,
                        ⟨(some 36), none, (.ld 1 false (.t 35))⟩,
                        ⟨(some 37), none, (.callF 58 [(.t 36)])⟩,
                        ⟨(some 38), none, (.mov (.t 7))⟩,
                        ⟨(some 39), none, (.bsl 1 [[(.int .i64 0)]] [(0, (.t 38))])⟩,
                        ⟨(some 40), none, (.app 1 8 (.t 37) (.t 39) 40)⟩,
                        ⟨(some 41), none, (.bsl 1 [[.nsl]] [(0, (.t 40))])⟩,
                        ⟨(some 42), none, (.app 1 24 (.t 32) (.t 41) 5)⟩,
                        ⟨(some 5), none, (.mov (.t 42))⟩])
                      .skip)))
                  (.ops [⟨(some 23), none, (.mov (.t 7))⟩,
                    ⟨(some 24), none, (.bin .add (.t 23) (.k (.int .i64 1)))⟩,
                    ⟨(some 7), none, (.mov (.t 24))⟩])))))))
            (.ops [⟨(some 18), none, (.mov (.t 6))⟩,
              ⟨(some 19), none, (.bin .add (.t 18) (.k (.int .i64 1)))⟩,
              ⟨(some 6), none, (.mov (.t 19))⟩]))))))
        (.ops [⟨(some 43), none, (.mov (.t 5))⟩,
          ⟨(some 3), none, (.mov (.t 43))⟩]))))
      (.ops [⟨(some 12), none, (.mov (.t 4))⟩,
        ⟨(some 13), none, (.bin .add (.t 12) (.k (.int .i64 1)))⟩,
        ⟨(some 4), none, (.mov (.t 13))⟩]))))))
  (.seq (.ops [⟨(some 44), none, (.mov (.t 3))⟩,
    ⟨(some 2), none, (.mov (.t 44))⟩])
  .ret))))⟩
def hint32 (P : Program) : Hint := { site := [(42, 5)], nils := [(5, 1)], frz := [], mve := [], wr := [] }
theorem intsQ_c (l : List Int) (hl : l.length < 1000) : RawC Try.prog 58 [.slc 1 (iR l) .non] (sg []) (SR (fun (x : Nat) v => v = .slc 1 (iR l) (.own 2 x)) (fun x => [(2, (x, .row []))])) := by
  have h1 : (iR l).length = l.length := by simp
  refine RawC.walk (H := hint58 Try.prog) ir58 Try.func58 rfl rfl rfl ?_
  unfold ir58
  repeat' (first
    | with_reducible (first | refine Rd.p ?_ | refine w_alt ?_ ?_ | refine zO ?_ | refine zE0 ?_)
    | with_reducible (first | refine zI fun y hy => ?_ | refine zL ?_ | refine zS ?_ | refine zA fun _ => ?_ | refine zV ?_ | refine zC ?_ | refine zG ?_ | refine zU ?_ | refine zG0 ?_ | refine zU0 ?_ | refine zF ?_)
    | with_reducible (first | refine zX ?_ | refine zD fun _ => ?_ | refine zD0 ?_ | refine zN ?_ | refine zF0 ?_ | refine zX0 ?_ | refine z1 ?_ | refine z2 ?_ | refine z3 ?_ | refine z4 ?_ | refine z5 ?_ | refine z6 ?_ | refine z7 ?_ | refine z8 ?_ | refine y1 ?_ | refine y2 ?_ | refine y3 ?_ | refine y4 ?_ | refine y5 ?_ | refine y6 ?_ | refine y7 ?_ | refine y8 ?_ | refine Rt.p (fun _ => ?_) fun _ => ?_)
    | ((with_reducible apply w_ixM); (focus exact rfl); (focus exact rfl); case' hk => intro y hy) | ((with_reducible (first | apply w_val | apply q_ends)); (focus exact rfl)))
  exact ⟨_, rfl, rfl, trivial⟩
theorem zW {e : Nat → AV} {σ : Sig} {R : AV → Sig → Prop} {res : List (Nat × Option (Nat × Bool))} {p : Prop} {l : List AV} (a' : AV) (hs : Sub (untag (tupV l)) a') (hR : R a' σ) (h : resV e σ res = some (p, l) := by with_unfolding_all exact rfl) (hp : p := by with_unfolding_all exact sd) : EndS res (fun a s => ∃ a', Sub a a' ∧ R a' s) .ret e σ := by
  have : endW (some (p, l)) (fun av => ∃ a', Sub av a' ∧ R a' σ) := ⟨hp, _, fun G v hv => hs G v (untag_sub _ G v hv), hR⟩
  rw [← h] at this; exact this
theorem Sub.rows0o {t : Tag} : Sub (.slc 1 [[.nsl]] t) (.slc 1 (llR [[]]) .non) := fun G v h => h.imp (fun ⟨_, he⟩ => by cases he) fun ⟨b, o, cap, h1, h2, h3, _⟩ =>
  ⟨b, o, cap, h1, h2, ⟨rfl, ⟨by obtain ⟨_, ⟨⟨u, hu, h0, hv⟩, _⟩, _⟩ := h3; exact ⟨u, hu, h0, .inl ⟨.inl hv, rfl⟩⟩, trivial⟩, trivial⟩, trivial⟩
def kidsO (n : Nat) (o : List Int) (j : Nat) : List (List Int) := (candF o j 0).map fun g => o ++ [g]
theorem kidsO_yes {n : Nat} {o : List Int} {j : Nat} (h : ((j : Nat) : Int) ∉ o) : kidsO n o (j + 1) = kidsO n o j ++ [o ++ [(j : Int)]] := by
  unfold kidsO
  rw [candF_snoc, Nat.zero_add, if_pos (by have := mt idx_mem.1 h; omega), List.map_append]
  rfl
theorem kidsO_no {n : Nat} {o : List Int} {j : Nat} (h : ((j : Nat) : Int) ∈ o) : kidsO n o (j + 1) = kidsO n o j := by
  unfold kidsO
  rw [candF_snoc, Nat.zero_add, if_neg (by have := idx_mem.2 h; omega), List.append_nil]
theorem kidsO_len (n : Nat) (o : List Int) (j : Nat) : (kidsO n o j).length ≤ j := by
  unfold kidsO
  rw [List.length_map]
  exact candF_len o j 0
theorem kids_len (n : Nat) : ∀ X : List (List Int), (X.flatMap fun o => kidsO n o n).length ≤ X.length * n
  | [] => by simp
  | o :: r => by
    rw [List.flatMap_cons, List.length_append, List.length_cons, Nat.succ_mul]
    have := kidsO_len n o n
    have := kids_len n r
    omega
def outO (n k : Nat) : Option Nat → AV
  | none => .slc 1 [[.nsl]] .full
  | some g => .slc 1 (llR (permsK n k [])) (.own 5 g)
theorem orders_o (n : Nat) (hn : n ≤ 4) : Fn0 Try.prog 32 [.int .i64 n] (fun v => v = .slc 1 (llR (permsK n n [])) .non) := by
  refine RawC.walk (H := hint32 Try.prog) ir32 Try.func32 rfl rfl rfl ?_
  unfold ir32
  repeat' (first
    | with_reducible (first | refine Rd.p ?_ | refine w_alt ?_ ?_ | refine zE ?_ | refine zE0 ?_)
    | with_reducible (first | refine zI fun y hy => ?_ | refine zL ?_ | refine zS ?_ | refine zA fun _ => ?_ | refine zV ?_ | refine zC ?_ | refine zG ?_ | refine zU ?_ | refine zG0 ?_ | refine zU0 ?_ | refine zF ?_)
    | with_reducible (first | refine zX ?_ | refine zD fun _ => ?_ | refine zD0 ?_ | refine zN ?_ | refine zF0 ?_ | refine zX0 ?_ | refine z1 ?_ | refine z2 ?_ | refine z3 ?_ | refine z4 ?_ | refine z5 ?_ | refine z6 ?_ | refine z7 ?_ | refine z8 ?_ | refine y1 ?_ | refine y2 ?_ | refine y3 ?_ | refine y4 ?_ | refine y5 ?_ | refine y6 ?_ | refine y7 ?_ | refine y8 ?_ | refine Rt.p (fun _ => ?_) fun _ => ?_)
    | ((with_reducible apply w_ixM); (focus exact rfl); (focus exact rfl); case' hk => intro y hy) | ((with_reducible (first | apply w_val | apply q_ends)); (focus exact rfl)))
  refine w_loopK [0] [] (fun x : Nat × Option Nat => x.1 ≤ n ∧ (x.2 = none → x.1 = 0) ∧ (x.1 = 0 → x.2 = none)) (fun x => n - x.1) (fun x => [(4, .int .i64 x.1), (3, outO n x.1 x.2)]) (fun _ => []) (0, none) ⟨Nat.zero_le _, fun _ => rfl, fun _ => rfl⟩ ⟨rfl, rfl, trivial⟩ trivial ?_
  rintro ⟨k, (_ | g3)⟩ ⟨hk, hk0, hk1⟩ e σ
  case none =>
    obtain rfl : k = 0 := hk0 rfl
    dsimp only [outO] at hk ⊢
    clear hk0 hk1
    have hl1 : ([[AV.nsl]] : List (List AV)).length = 1 := rfl
    by_cases h0 : n = 0
    · subst h0
      repeat' (first
        | with_reducible (first | refine Rd.p ?_ | refine w_alt ?_ ?_ | refine zW (.slc 1 (llR [[]]) .non) ?_ ?_)
        | with_reducible (first | refine zI fun y hy => ?_ | refine zL ?_ | refine zS ?_ | refine zA fun _ => ?_ | refine zV ?_ | refine zC ?_ | refine zG ?_ | refine zU ?_ | refine zG0 ?_ | refine zU0 ?_ | refine zF ?_)
        | with_reducible (first | refine zX ?_ | refine zD fun _ => ?_ | refine zD0 ?_ | refine zN ?_ | refine zF0 ?_ | refine zX0 ?_ | refine z1 ?_ | refine z2 ?_ | refine z3 ?_ | refine z4 ?_ | refine z5 ?_ | refine z6 ?_ | refine z7 ?_ | refine z8 ?_ | refine y1 ?_ | refine y2 ?_ | refine y3 ?_ | refine y4 ?_ | refine y5 ?_ | refine y6 ?_ | refine y7 ?_ | refine y8 ?_ | refine Rt.p (fun _ => ?_) fun _ => ?_)
        | ((with_reducible apply w_ixM); (focus exact rfl); (focus exact rfl); case' hk => intro y hy) | ((with_reducible (first | apply w_val | apply q_ends)); (focus exact rfl)))
      all_goals first
        | exact Sub.rows0o
        | rfl
    have hI : RawC Try.prog 58 [.nsl] (sg []) (SR (fun (x : Nat) v => v = .slc 1 (iR []) (.own 2 x)) (fun x => [(2, (x, .row []))])) := RawC.weak (fun _ _ hr => SubL.rel (.cons Sub.nil .nil) hr) (intsQ_c [] (by decide))
    have hnx : permsK n (0 + 1) [] = kidsO n [] n := by rw [permsK_snoc]; show [[]].flatMap _ = _; rw [List.flatMap_cons, List.flatMap_nil, List.append_nil]; rfl
    repeat' (first
      | with_reducible (first | refine Rd.p ?_ | refine w_alt ?_ ?_ | refine zE ?_ | refine zE0 ?_)
      | with_reducible (first | refine zI fun y hy => ?_ | refine zL ?_ | refine zS ?_ | refine zA fun _ => ?_ | refine zV ?_ | refine zC ?_ | refine zG ?_ | refine zU ?_ | refine zG0 ?_ | refine zU0 ?_ | refine zF ?_)
      | with_reducible (first | refine zX ?_ | refine zD fun _ => ?_ | refine zD0 ?_ | refine zN ?_ | refine zF0 ?_ | refine zX0 ?_ | refine z1 ?_ | refine z2 ?_ | refine z3 ?_ | refine z4 ?_ | refine z5 ?_ | refine z6 ?_ | refine z7 ?_ | refine z8 ?_ | refine y1 ?_ | refine y2 ?_ | refine y3 ?_ | refine y4 ?_ | refine y5 ?_ | refine y6 ?_ | refine y7 ?_ | refine y8 ?_ | refine Rt.p (fun _ => ?_) fun _ => ?_)
      | ((with_reducible apply w_ixM); (focus exact rfl); (focus exact rfl); case' hk => intro y hy) | ((with_reducible (first | apply w_val | apply q_ends)); (focus exact rfl)))
    rename_i g5
    refine w_loopK [0, 3, 4] [] (fun x : Nat × Nat => x.1 ≤ 1) (fun x => 1 - x.1) (fun x => [(6, .int .i64 x.1), (5, .slc 1 (llR (if x.1 = 0 then [] else kidsO n [] n)) (.own 5 x.2))]) (fun x => [(5, (x.2, .row []))]) (0, g5) (Nat.zero_le _) ⟨rfl, rfl, trivial⟩ ⟨rfl, trivial⟩ ?_
    rintro ⟨i, g5⟩ hi e σ
    dsimp only at hi ⊢
    by_cases hi0 : i = 0
    case neg =>
      obtain rfl : i = 1 := by omega
      rw [if_neg (by decide), ← hnx]
      obtain ⟨PP, hPP⟩ : ∃ X, permsK n 1 [] = X := ⟨_, rfl⟩
      rw [show permsK n (0 + 1) [] = PP from hPP]
      clear hnx
      repeat' (first
        | with_reducible (first | refine Rd.p ?_ | refine w_alt ?_ ?_ | refine zE ?_ | refine zE0 ?_)
        | with_reducible (first | refine zI fun y hy => ?_ | refine zL ?_ | refine zS ?_ | refine zA fun _ => ?_ | refine zV ?_ | refine zC ?_ | refine zG ?_ | refine zU ?_ | refine zG0 ?_ | refine zU0 ?_ | refine zF ?_)
        | with_reducible (first | refine zX ?_ | refine zD fun _ => ?_ | refine zD0 ?_ | refine zN ?_ | refine zF0 ?_ | refine zX0 ?_ | refine z1 ?_ | refine z2 ?_ | refine z3 ?_ | refine z4 ?_ | refine z5 ?_ | refine z6 ?_ | refine z7 ?_ | refine z8 ?_ | refine y1 ?_ | refine y2 ?_ | refine y3 ?_ | refine y4 ?_ | refine y5 ?_ | refine y6 ?_ | refine y7 ?_ | refine y8 ?_ | refine Rt.p (fun _ => ?_) fun _ => ?_)
        | ((with_reducible apply w_ixM); (focus exact rfl); (focus exact rfl); case' hk => intro y hy) | ((with_reducible (first | apply w_val | apply q_ends)); (focus exact rfl)))
      exact q_loop (1, some g5) ⟨by show 1 ≤ n; omega, (fun h => by cases h), (fun h => absurd (show (1 : Nat) = 0 from h) (by decide))⟩ (by show n - 1 < n - 0; omega) (slots_cons rfl (slots_cons (by show _ = AV.slc 1 (llR (permsK n 1 [])) _; rw [hPP]; rfl) slots_nil)) trivial (by repeat' (first | exact kept_nil | apply kept_cons | rfl)) (by repeat' (first | exact kept_nil | apply kept_cons | rfl))
    subst hi0
    rw [if_pos rfl]
    repeat' (first
      | with_reducible (first | refine Rd.p ?_ | refine w_alt ?_ ?_ | refine zE ?_ | refine zE0 ?_)
      | with_reducible (first | refine zI fun y hy => ?_ | refine zL ?_ | refine zS ?_ | refine zA fun _ => ?_ | refine zV ?_ | refine zC ?_ | refine zG ?_ | refine zU ?_ | refine zG0 ?_ | refine zU0 ?_ | refine zF ?_)
      | with_reducible (first | refine zX ?_ | refine zD fun _ => ?_ | refine zD0 ?_ | refine zN ?_ | refine zF0 ?_ | refine zX0 ?_ | refine z1 ?_ | refine z2 ?_ | refine z3 ?_ | refine z4 ?_ | refine z5 ?_ | refine z6 ?_ | refine z7 ?_ | refine z8 ?_ | refine y1 ?_ | refine y2 ?_ | refine y3 ?_ | refine y4 ?_ | refine y5 ?_ | refine y6 ?_ | refine y7 ?_ | refine y8 ?_ | refine Rt.p (fun _ => ?_) fun _ => ?_)
      | ((with_reducible apply w_ixM); (focus exact rfl); (focus exact rfl); case' hk => intro y hy) | ((with_reducible (first | apply w_val | apply q_ends)); (focus exact rfl)))
    refine w_loopK [0, 3, 4, 6] [] (fun x : Nat × Nat => x.1 ≤ n) (fun x => n - x.1) (fun x => [(7, .int .i64 x.1), (5, .slc 1 (llR (kidsO n [] x.1)) (.own 5 x.2))]) (fun x => [(5, (x.2, .row []))]) (0, g5) (Nat.zero_le _) ⟨rfl, rfl, trivial⟩ ⟨rfl, trivial⟩ ?_
    rintro ⟨j, g5⟩ hj e σ
    dsimp only at hj ⊢
    by_cases hjn : j = n
    · subst hjn
      repeat' (first
        | with_reducible (first | refine Rd.p ?_ | refine w_alt ?_ ?_ | refine zE ?_ | refine zE0 ?_)
        | with_reducible (first | refine zI fun y hy => ?_ | refine zL ?_ | refine zS ?_ | refine zA fun _ => ?_ | refine zV ?_ | refine zC ?_ | refine zG ?_ | refine zU ?_ | refine zG0 ?_ | refine zU0 ?_ | refine zF ?_)
        | with_reducible (first | refine zX ?_ | refine zD fun _ => ?_ | refine zD0 ?_ | refine zN ?_ | refine zF0 ?_ | refine zX0 ?_ | refine z1 ?_ | refine z2 ?_ | refine z3 ?_ | refine z4 ?_ | refine z5 ?_ | refine z6 ?_ | refine z7 ?_ | refine z8 ?_ | refine y1 ?_ | refine y2 ?_ | refine y3 ?_ | refine y4 ?_ | refine y5 ?_ | refine y6 ?_ | refine y7 ?_ | refine y8 ?_ | refine Rt.p (fun _ => ?_) fun _ => ?_)
        | ((with_reducible apply w_ixM); (focus exact rfl); (focus exact rfl); case' hk => intro y hy) | ((with_reducible (first | apply w_val | apply q_ends)); (focus exact rfl)))
      all_goals first
        | (exfalso; omega)
        | exact q_loop (1, g5) (Nat.le_refl _) (by show 1 - 1 < 1 - 0; omega) (slots_cons rfl (slots_cons rfl slots_nil)) ⟨rfl, trivial⟩ (by repeat' (first | exact kept_nil | apply kept_cons | rfl)) (by repeat' (first | exact kept_nil | apply kept_cons | rfl))
    have hm : (j : Int) ∉ ([] : List Int) := by simp
    have hH : Fn0 Try.prog 37 [.nsl, .int .i64 j] (fun v => v = .bool false) := RawC.weak (fun _ _ hr => SubL.rel (.cons Sub.nil (.cons (Sub.refl _) .nil)) hr) (by have h := has_c [] j (by decide); rw [decide_eq_false hm] at h; exact h)
    have hkl := kidsO_len n [] j
    have hk2 := kidsO_yes (n := n) hm
    generalize kidsO n [] j = E at *
    repeat' (first
      | with_reducible (first | refine Rd.p ?_ | refine w_alt ?_ ?_ | refine zE ?_ | refine zE0 ?_)
      | with_reducible (first | refine zI fun y hy => ?_ | refine zL ?_ | refine zS ?_ | refine zA fun _ => ?_ | refine zV ?_ | refine zC ?_ | refine zG ?_ | refine zU ?_ | refine zG0 ?_ | refine zU0 ?_ | refine zF ?_)
      | ((with_reducible refine acall_id ?_); refine ACall.val hH rfl rfl ?_)
      | ((with_reducible refine acall_id ?_); refine ACall.liftS hI [] (some 2) rfl rfl rfl trivial (fun _ => rfl) ?_; rintro gI _ rfl)
      | with_reducible (first | refine zX ?_ | refine zD fun _ => ?_ | refine zD0 ?_ | refine zN ?_ | refine zF0 ?_ | refine zX0 ?_ | refine z1 ?_ | refine z2 ?_ | refine z3 ?_ | refine z4 ?_ | refine z5 ?_ | refine z6 ?_ | refine z7 ?_ | refine z8 ?_ | refine y1 ?_ | refine y2 ?_ | refine y3 ?_ | refine y4 ?_ | refine y5 ?_ | refine y6 ?_ | refine y7 ?_ | refine y8 ?_ | refine Rt.p (fun _ => ?_) fun _ => ?_)
      | ((with_reducible apply w_ixM); (focus exact rfl); (focus exact rfl); case' hk => intro y hy) | ((with_reducible (first | apply w_val | apply q_ends)); (focus exact rfl)))
    rename_i g40 gn
    exact q_loop (j + 1, gn) (by show j + 1 ≤ n; omega) (by show n - (j + 1) < n - j; omega) (slots_cons (by show AV.int .i64 _ = AV.int .i64 _; refine int_eq ?_; simp) (slots_cons (by show _ = AV.slc 1 (llR (kidsO n [] (j + 1))) _; rw [hk2]; rfl) slots_nil)) ⟨rfl, trivial⟩ (by repeat' (first | exact kept_nil | apply kept_cons | rfl)) (by repeat' (first | exact kept_nil | apply kept_cons | rfl))
  dsimp only [outO] at hk hk1 ⊢
  have hkp : k ≠ 0 := fun h => by cases hk1 h
  by_cases hkn : k = n
  · subst hkn
    repeat' (first
      | with_reducible (first | refine Rd.p ?_ | refine w_alt ?_ ?_ | refine zE ?_ | refine zE0 ?_)
      | with_reducible (first | refine zI fun y hy => ?_ | refine zL ?_ | refine zS ?_ | refine zA fun _ => ?_ | refine zV ?_ | refine zC ?_ | refine zG ?_ | refine zU ?_ | refine zG0 ?_ | refine zU0 ?_ | refine zF ?_)
      | with_reducible (first | refine zX ?_ | refine zD fun _ => ?_ | refine zD0 ?_ | refine zN ?_ | refine zF0 ?_ | refine zX0 ?_ | refine z1 ?_ | refine z2 ?_ | refine z3 ?_ | refine z4 ?_ | refine z5 ?_ | refine z6 ?_ | refine z7 ?_ | refine z8 ?_ | refine y1 ?_ | refine y2 ?_ | refine y3 ?_ | refine y4 ?_ | refine y5 ?_ | refine y6 ?_ | refine y7 ?_ | refine y8 ?_ | refine Rt.p (fun _ => ?_) fun _ => ?_)
      | ((with_reducible apply w_ixM); (focus exact rfl); (focus exact rfl); case' hk => intro y hy) | ((with_reducible (first | apply w_val | apply q_ends)); (focus exact rfl)))
    all_goals first
      | (exfalso; omega)
      | rfl
  have hX := permsK_len n k []
  have hX4 : n ^ k ≤ 256 := Nat.le_trans (Nat.pow_le_pow_left hn k) (Nat.pow_le_pow_right (by omega) (show k ≤ 4 by omega))
  have hXl : ∀ o ∈ permsK n k [], o.length ≤ 4 := fun o ho => by have := (permsK_mem ho).1; simp at this; omega
  have hnx : permsK n (k + 1) [] = (permsK n k []).flatMap fun o => kidsO n o n := permsK_snoc n k []
  generalize permsK n k [] = X at *
  repeat' (first
    | with_reducible (first | refine Rd.p ?_ | refine w_alt ?_ ?_ | refine zE ?_ | refine zE0 ?_)
    | with_reducible (first | refine zI fun y hy => ?_ | refine zL ?_ | refine zS ?_ | refine zA fun _ => ?_ | refine zV ?_ | refine zC ?_ | refine zG ?_ | refine zU ?_ | refine zG0 ?_ | refine zU0 ?_ | refine zF ?_)
    | with_reducible (first | refine zX ?_ | refine zD fun _ => ?_ | refine zD0 ?_ | refine zN ?_ | refine zF0 ?_ | refine zX0 ?_ | refine z1 ?_ | refine z2 ?_ | refine z3 ?_ | refine z4 ?_ | refine z5 ?_ | refine z6 ?_ | refine z7 ?_ | refine z8 ?_ | refine y1 ?_ | refine y2 ?_ | refine y3 ?_ | refine y4 ?_ | refine y5 ?_ | refine y6 ?_ | refine y7 ?_ | refine y8 ?_ | refine Rt.p (fun _ => ?_) fun _ => ?_)
    | ((with_reducible apply w_ixM); (focus exact rfl); (focus exact rfl); case' hk => intro y hy) | ((with_reducible (first | apply w_val | apply q_ends)); (focus exact rfl)))
  rename_i g5
  refine w_loopK [0, 3, 4] [] (fun x : List (List Int) × List (List Int) × Nat => X = x.1 ++ x.2.1) (fun x => x.2.1.length) (fun x => [(6, .int .i64 x.1.length), (5, .slc 1 (llR (x.1.flatMap fun o => kidsO n o n)) (.own 5 x.2.2))]) (fun x => [(5, (x.2.2, .row []))]) ([], X, g5) rfl ⟨rfl, rfl, trivial⟩ ⟨rfl, trivial⟩ ?_
  rintro ⟨pre, post, g5⟩ hpp e σ
  dsimp only at hpp ⊢
  have hlen := congrArg List.length hpp
  rw [List.length_append] at hlen
  cases post with
  | nil =>
    simp only [List.length_nil] at hlen
    rw [List.append_nil] at hpp
    rw [← hpp, ← hnx]
    repeat' (first
      | with_reducible (first | refine Rd.p ?_ | refine w_alt ?_ ?_ | refine zE ?_ | refine zE0 ?_)
      | with_reducible (first | refine zI fun y hy => ?_ | refine zL ?_ | refine zS ?_ | refine zA fun _ => ?_ | refine zV ?_ | refine zC ?_ | refine zG ?_ | refine zU ?_ | refine zG0 ?_ | refine zU0 ?_ | refine zF ?_)
      | with_reducible (first | refine zX ?_ | refine zD fun _ => ?_ | refine zD0 ?_ | refine zN ?_ | refine zF0 ?_ | refine zX0 ?_ | refine z1 ?_ | refine z2 ?_ | refine z3 ?_ | refine z4 ?_ | refine z5 ?_ | refine z6 ?_ | refine z7 ?_ | refine z8 ?_ | refine y1 ?_ | refine y2 ?_ | refine y3 ?_ | refine y4 ?_ | refine y5 ?_ | refine y6 ?_ | refine y7 ?_ | refine y8 ?_ | refine Rt.p (fun _ => ?_) fun _ => ?_)
      | ((with_reducible apply w_ixM); (focus exact rfl); (focus exact rfl); case' hk => intro y hy) | ((with_reducible (first | apply w_val | apply q_ends)); (focus exact rfl)))
    all_goals first
      | (exfalso; omega)
      | exact q_loop (k + 1, some g5) ⟨by show k + 1 ≤ n; omega, fun h => (by cases h), fun h => (by simp at h)⟩ (by show n - (k + 1) < n - k; omega) (slots_cons (by show AV.int .i64 _ = AV.int .i64 _; refine int_eq ?_; simp) (slots_cons rfl slots_nil)) trivial (by repeat' (first | exact kept_nil | apply kept_cons | rfl)) (by repeat' (first | exact kept_nil | apply kept_cons | rfl))
  | cons o post =>
    simp only [List.length_cons] at hlen
    have hgo : X[pre.length]? = some o := by rw [hpp]; simp
    have ho4 := hXl o (List.mem_of_getElem? hgo)
    have hDl := kids_len n pre
    have hnn : pre.length * n ≤ 256 * 4 := Nat.mul_le_mul (by omega) hn
    have hD2 : (pre ++ [o]).flatMap (fun o => kidsO n o n) = pre.flatMap (fun o => kidsO n o n) ++ kidsO n o n := by simp
    generalize pre.flatMap (fun o => kidsO n o n) = D at *
    repeat' (first
      | with_reducible (first | refine Rd.p ?_ | refine w_alt ?_ ?_ | refine zE ?_ | refine zE0 ?_)
      | with_reducible (first | refine zI fun y hy => ?_ | refine zL ?_ | refine zS ?_ | refine zA fun _ => ?_ | refine zV ?_ | refine zC ?_ | refine zG ?_ | refine zU ?_ | refine zG0 ?_ | refine zU0 ?_ | refine zF ?_)
      | with_reducible (first | refine zX ?_ | refine zD fun _ => ?_ | refine zD0 ?_ | refine zN ?_ | refine zF0 ?_ | refine zX0 ?_ | refine z1 ?_ | refine z2 ?_ | refine z3 ?_ | refine z4 ?_ | refine z5 ?_ | refine z6 ?_ | refine z7 ?_ | refine z8 ?_ | refine y1 ?_ | refine y2 ?_ | refine y3 ?_ | refine y4 ?_ | refine y5 ?_ | refine y6 ?_ | refine y7 ?_ | refine y8 ?_ | refine Rt.p (fun _ => ?_) fun _ => ?_)
      | ((with_reducible apply w_ixM); (focus exact rfl); (focus exact rfl); case' hk => intro y hy) | ((with_reducible (first | apply w_val | apply q_ends)); (focus exact rfl)))
    refine w_loopK [0, 3, 4, 6] [] (fun x : Nat × Nat => x.1 ≤ n) (fun x => n - x.1) (fun x => [(7, .int .i64 x.1), (5, .slc 1 (llR (D ++ kidsO n o x.1)) (.own 5 x.2))]) (fun x => [(5, (x.2, .row []))]) (0, g5) (Nat.zero_le _) ⟨rfl, (by show AV.slc 1 (llR D) _ = AV.slc 1 (llR (D ++ [])) _; rw [List.append_nil]), trivial⟩ ⟨rfl, trivial⟩ ?_
    rintro ⟨j, g5⟩ hj e σ
    dsimp only at hj ⊢
    by_cases hjn : j = n
    · subst hjn
      repeat' (first
        | with_reducible (first | refine Rd.p ?_ | refine w_alt ?_ ?_ | refine zE ?_ | refine zE0 ?_)
        | with_reducible (first | refine zI fun y hy => ?_ | refine zL ?_ | refine zS ?_ | refine zA fun _ => ?_ | refine zV ?_ | refine zC ?_ | refine zG ?_ | refine zU ?_ | refine zG0 ?_ | refine zU0 ?_ | refine zF ?_)
        | with_reducible (first | refine zX ?_ | refine zD fun _ => ?_ | refine zD0 ?_ | refine zN ?_ | refine zF0 ?_ | refine zX0 ?_ | refine z1 ?_ | refine z2 ?_ | refine z3 ?_ | refine z4 ?_ | refine z5 ?_ | refine z6 ?_ | refine z7 ?_ | refine z8 ?_ | refine y1 ?_ | refine y2 ?_ | refine y3 ?_ | refine y4 ?_ | refine y5 ?_ | refine y6 ?_ | refine y7 ?_ | refine y8 ?_ | refine Rt.p (fun _ => ?_) fun _ => ?_)
        | ((with_reducible apply w_ixM); (focus exact rfl); (focus exact rfl); case' hk => intro y hy) | ((with_reducible (first | apply w_val | apply q_ends)); (focus exact rfl)))
      all_goals first
        | (exfalso; omega)
        | exact q_loop (pre ++ [o], post, g5) (by show X = _; rw [hpp]; simp) (by simp) (slots_cons (by show AV.int .i64 _ = AV.int .i64 _; refine int_eq ?_; simp) (slots_cons (by show _ = AV.slc 1 (llR ((pre ++ [o]).flatMap _)) _; rw [hD2]; rfl) slots_nil)) ⟨rfl, trivial⟩ (by repeat' (first | exact kept_nil | apply kept_cons | rfl)) (by repeat' (first | exact kept_nil | apply kept_cons | rfl))
    have hH := has_c o j (by omega)
    have hI := intsQ_c o (by omega)
    have hkl := kidsO_len n o j
    by_cases hm : (j : Int) ∈ o
    · have hk2 := kidsO_no (n := n) hm
      rw [decide_eq_true hm] at hH
      repeat' (first
        | with_reducible (first | refine Rd.p ?_ | refine w_alt ?_ ?_ | refine zE ?_ | refine zE0 ?_)
        | (refine w_ixE (f := fun l => [AV.slc 1 (iR l) .non]) hgo rfl rfl ?_)
        | with_reducible (first | refine zI fun y hy => ?_ | refine zL ?_ | refine zS ?_ | refine zA fun _ => ?_ | refine zV ?_ | refine zC ?_ | refine zG ?_ | refine zU ?_ | refine zG0 ?_ | refine zU0 ?_ | refine zF ?_)
        | ((with_reducible refine acall_id ?_); refine ACall.val hH rfl rfl ?_)
        | with_reducible (first | refine zX ?_ | refine zD fun _ => ?_ | refine zD0 ?_ | refine zN ?_ | refine zF0 ?_ | refine zX0 ?_ | refine z1 ?_ | refine z2 ?_ | refine z3 ?_ | refine z4 ?_ | refine z5 ?_ | refine z6 ?_ | refine z7 ?_ | refine z8 ?_ | refine y1 ?_ | refine y2 ?_ | refine y3 ?_ | refine y4 ?_ | refine y5 ?_ | refine y6 ?_ | refine y7 ?_ | refine y8 ?_ | refine Rt.p (fun _ => ?_) fun _ => ?_)
        | ((with_reducible apply w_ixM); (focus exact rfl); (focus exact rfl); case' hk => intro y hy) | ((with_reducible (first | apply w_val | apply q_ends)); (focus exact rfl)))
      all_goals first
        | (exfalso; omega)
        | exact q_loop (j + 1, g5) (by show j + 1 ≤ n; omega) (by show n - (j + 1) < n - j; omega) (slots_cons (by show AV.int .i64 _ = AV.int .i64 _; refine int_eq ?_; simp) (slots_cons (by show _ = AV.slc 1 (llR (D ++ kidsO n o (j + 1))) _; rw [hk2]; rfl) slots_nil)) ⟨rfl, trivial⟩ (by repeat' (first | exact kept_nil | apply kept_cons | rfl)) (by repeat' (first | exact kept_nil | apply kept_cons | rfl))
    · have hk2 := kidsO_yes (n := n) hm
      rw [decide_eq_false hm] at hH
      have hlk : (D ++ kidsO n o j).length ≤ 2000 := by rw [List.length_append]; omega
      have hk3 : D ++ kidsO n o (j + 1) = (D ++ kidsO n o j) ++ [o ++ [(j : Int)]] := by rw [hk2, List.append_assoc]
      generalize D ++ kidsO n o j = E at *
      repeat' (first
        | with_reducible (first | refine Rd.p ?_ | refine w_alt ?_ ?_ | refine zE ?_ | refine zE0 ?_)
        | (refine w_ixE (f := fun l => [AV.slc 1 (iR l) .non]) hgo rfl rfl ?_)
        | with_reducible (first | refine zI fun y hy => ?_ | refine zL ?_ | refine zS ?_ | refine zA fun _ => ?_ | refine zV ?_ | refine zC ?_ | refine zG ?_ | refine zU ?_ | refine zG0 ?_ | refine zU0 ?_ | refine zF ?_)
        | ((with_reducible refine acall_id ?_); refine ACall.val hH rfl rfl ?_)
        | ((with_reducible refine acall_id ?_); refine ACall.liftS hI [] (some 2) rfl rfl rfl trivial (fun _ => rfl) ?_; rintro gI _ rfl)
        | with_reducible (first | refine zX ?_ | refine zD fun _ => ?_ | refine zD0 ?_ | refine zN ?_ | refine zF0 ?_ | refine zX0 ?_ | refine z1 ?_ | refine z2 ?_ | refine z3 ?_ | refine z4 ?_ | refine z5 ?_ | refine z6 ?_ | refine z7 ?_ | refine z8 ?_ | refine y1 ?_ | refine y2 ?_ | refine y3 ?_ | refine y4 ?_ | refine y5 ?_ | refine y6 ?_ | refine y7 ?_ | refine y8 ?_ | refine Rt.p (fun _ => ?_) fun _ => ?_)
        | ((with_reducible apply w_ixM); (focus exact rfl); (focus exact rfl); case' hk => intro y hy) | ((with_reducible (first | apply w_val | apply q_ends)); (focus exact rfl)))
      rename_i g40 gn
      exact q_loop (j + 1, gn) (by show j + 1 ≤ n; omega) (by show n - (j + 1) < n - j; omega) (slots_cons (by show AV.int .i64 _ = AV.int .i64 _; refine int_eq ?_; simp) (slots_cons (by show _ = AV.slc 1 (llR (D ++ kidsO n o (j + 1))) _; rw [hk3]; rfl) slots_nil)) ⟨rfl, trivial⟩ (by repeat' (first | exact kept_nil | apply kept_cons | rfl)) (by repeat' (first | exact kept_nil | apply kept_cons | rfl))
end Go.Abs
