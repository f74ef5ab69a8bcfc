/- A part of the proofs of the laws of this seat: contracts of the functions that they reach, each proved of the program's form in Lean. No condition beyond those that each contract names. -/
import Derived.Test.YtcgcciegekaliaaB0
import Derived.Test.YtcgcciegekaliaaB2
import Derived.Test.YtcgcciegekaliaaB3
import Derived.Test.YtcgcciegekaliaaB4
import Derived.Test.YtcgcciegekaliaaB5
import Derived.Test.YtcgcciegekaliaaB6
import Derived.Test.YtcgcciegekaliaaB7
import Derived.Test.YtcgcciegekaliaaB9
import Derived.Test.YtcgcciegekaliaaB12
import Derived.Test.YtcgcciegekaliaaB20
import Derived.Test.YtcgcciegekaliaaB36
import Derived.Test.YtcgcciegekaliaaB37
import Derived.Test.YtcgcciegekaliaaB38
import Derived.Test.YtcgcciegekaliaaB39
set_option linter.unusedVariables false
set_option linter.unusedSimpArgs false
set_option maxRecDepth 20000
set_option maxHeartbeats 4000000
/-! ### Invitations: the program's search -/
namespace Go.Abs
open Go.Proofs
def lstV (l : List Int) : AV := match l with
  | [] => .nsl
  | x :: r => .slc 1 (iR (x :: r)) .non
theorem sub_lst : ∀ l, Sub (lstV l) (.slc 1 (iR l) .non)
  | [] => Sub.nil
  | _ :: _ => Sub.refl _
theorem lstV_ne {l : List Int} (h : l ≠ []) : lstV l = .slc 1 (iR l) .non := by
  cases l with
  | nil => exact absurd rfl h
  | cons => rfl
theorem Sub.tup {l m : List AV} (h : SubL l m) : Sub (.tup l) (.tup m) := fun G v ⟨vs, h1, h2⟩ => ⟨vs, h1, SubL.rel h h2⟩
theorem Fn0.subV {P : Program} {f : Nat} {args : List AV} {a b : AV} (h : Fn0 P f args (fun v => v = a)) (hs : Sub a b) : Fn0 P f args (fun v => v = b) :=
  h.sub fun _ _ e => ⟨b, e ▸ hs, rfl⟩
theorem ACall.lists {a b : List Int} {σ : Sig} {d : Nat} {Q : AV → Sig → Prop} (ha : a.length < 1000000) (hb : b.length < 1000000) (hQ : Q (.int .i64 (lsI a b)) σ) : ACall Try.prog 96 [.slc 1 (iR a) .non, lstV b] σ d Q :=
  ACall.wval (args' := [.slc 1 (iR a) .non, .slc 1 (iR b) .non]) (.cons (Sub.refl _) (.cons (sub_lst b) .nil)) (lists_c a b ha hb) rfl rfl hQ
theorem inc.len {n : Nat} {l : List Int} (h : inc n l) : l.length ≤ n :=
  nodup_len n l (h.lt.imp fun h => by omega) h.bd
theorem inv_upd (gs : List Guest) {k : Nat} (hk : k < 2 ^ 62) {o : List Int} {c : Int} (h0 : k = 0 → o = [] ∧ c = 0) (hc : 0 ≤ c) (h : c < honS gs (membersL k) ∨ (honS gs (membersL k) = c ∧ lsI (membersL k) o < 0)) : membersL k ≠ [] := by
  intro hm
  have hk0 : k = 0 := Decidable.byContradiction fun h => members_ne hk h hm
  obtain ⟨rfl, rfl⟩ := h0 hk0
  rw [hm] at h
  rcases h with h | ⟨_, h⟩
  · simp [honS] at h
  · simp [lsI, lexI, cmpI] at h
theorem Invite0_c (gs : List Guest) (bs : List Bond) (seats : Int) (hl0 : gs.length < 1000) (hb0 : bs.length < 1000) (hs : ∀ g ∈ gs, g.name.size ≤ 1000) :
    Fn0 Try.prog 58 [.slc 5 (gR gs) .non, .slc 3 (bR bs) .non, .int .i64 seats] (fun v => v = .tup [lstV (invP gs bs seats).1, .int .i64 (invP gs bs seats).2.1, .int .i64 (invP gs bs seats).2.2]) := by
  by_cases h10 : 10 < gs.length
  case pos =>
    have hk : knownE gs = 8 := if_pos h10
    rw [show invP gs bs seats = ([], 0, 8) by rw [invP, hk, if_pos (by omega)]]
    refine RawC.walk (H := hint58 Try.prog) ir58 Try.func58 rfl rfl rfl ?_
    unfold ir58
    repeat' (first
      | with_reducible (first | refine Rd.p ?_ | refine zE ?_ | refine zE0 ?_)
      | with_reducible (first | refine zI fun y hy => ?_ | refine zL ?_ | refine zS ?_ | refine zA fun _ => ?_ | refine zV ?_ | refine zC ?_ | refine zG ?_ | refine zU ?_ | refine zG0 ?_ | refine zU0 ?_ | refine zF ?_)
      | with_reducible (first | refine zX ?_ | refine zD fun _ => ?_ | refine zD0 ?_ | refine zN ?_ | refine zF0 ?_ | refine zX0 ?_ | refine z1 ?_ | refine z2 ?_ | refine z3 ?_ | refine z4 ?_ | refine z5 ?_ | refine z6 ?_ | refine z7 ?_ | refine z8 ?_ | refine y1 ?_ | refine y2 ?_ | refine y3 ?_ | refine y4 ?_ | refine y5 ?_ | refine y6 ?_ | refine y7 ?_ | refine y8 ?_ | refine Rt.p (fun _ => ?_) fun _ => ?_)
      | ((with_reducible apply w_ixM); (focus exact rfl); (focus exact rfl); case' hk => intro y hy) | ((with_reducible (first | apply w_val | apply q_ends)); (focus exact rfl)))
    rfl
  have hk : knownE gs = gsErr [] gs := if_neg h10
  by_cases hge : gsErr [] gs = 0
  case neg =>
    rw [show invP gs bs seats = ([], 0, gsErr [] gs) by rw [invP, hk, if_pos hge]]
    refine RawC.walk (H := hint58 Try.prog) ir58 Try.func58 rfl rfl rfl ?_
    unfold ir58
    repeat' (first
      | with_reducible (first | refine Rd.p ?_ | refine zE ?_ | refine zE0 ?_)
      | with_reducible (first | refine zI fun y hy => ?_ | refine zL ?_ | refine zS ?_ | refine zA fun _ => ?_ | refine zV ?_ | refine zC ?_ | refine zG ?_ | refine zU ?_ | refine zG0 ?_ | refine zU0 ?_ | refine zF ?_)
      | ((with_reducible refine acall_id ?_); refine ACall.val (checkGuests_c gs hl0 hs) rfl rfl ?_)
      | with_reducible (first | refine zX ?_ | refine zD fun _ => ?_ | refine zD0 ?_ | refine zN ?_ | refine zF0 ?_ | refine zX0 ?_ | refine z1 ?_ | refine z2 ?_ | refine z3 ?_ | refine z4 ?_ | refine z5 ?_ | refine z6 ?_ | refine z7 ?_ | refine z8 ?_ | refine y1 ?_ | refine y2 ?_ | refine y3 ?_ | refine y4 ?_ | refine y5 ?_ | refine y6 ?_ | refine y7 ?_ | refine y8 ?_ | refine Rt.p (fun _ => ?_) fun _ => ?_)
      | ((with_reducible apply w_ixM); (focus exact rfl); (focus exact rfl); case' hk => intro y hy) | ((with_reducible (first | apply w_val | apply q_ends)); (focus exact rfl)))
    rfl
  by_cases h20 : 20 < bs.length
  case pos =>
    rw [show invP gs bs seats = ([], 0, 8) by rw [invP, hk, if_neg (by omega), if_pos h20]]
    refine RawC.walk (H := hint58 Try.prog) ir58 Try.func58 rfl rfl rfl ?_
    unfold ir58
    repeat' (first
      | with_reducible (first | refine Rd.p ?_ | refine zE ?_ | refine zE0 ?_)
      | with_reducible (first | refine zI fun y hy => ?_ | refine zL ?_ | refine zS ?_ | refine zA fun _ => ?_ | refine zV ?_ | refine zC ?_ | refine zG ?_ | refine zU ?_ | refine zG0 ?_ | refine zU0 ?_ | refine zF ?_)
      | ((with_reducible refine acall_id ?_); refine ACall.val (checkGuests_c gs hl0 hs) rfl rfl ?_)
      | with_reducible (first | refine zX ?_ | refine zD fun _ => ?_ | refine zD0 ?_ | refine zN ?_ | refine zF0 ?_ | refine zX0 ?_ | refine z1 ?_ | refine z2 ?_ | refine z3 ?_ | refine z4 ?_ | refine z5 ?_ | refine z6 ?_ | refine z7 ?_ | refine z8 ?_ | refine y1 ?_ | refine y2 ?_ | refine y3 ?_ | refine y4 ?_ | refine y5 ?_ | refine y6 ?_ | refine y7 ?_ | refine y8 ?_ | refine Rt.p (fun _ => ?_) fun _ => ?_)
      | ((with_reducible apply w_ixM); (focus exact rfl); (focus exact rfl); case' hk => intro y hy) | ((with_reducible (first | apply w_val | apply q_ends)); (focus exact rfl)))
    rfl
  have hhon := (known_inv (hk.trans hge)).2
  have hP : invP gs bs seats = if bsErr gs.length bs ≠ 0 then ([], 0, bsErr gs.length bs) else if inB seats 0 7 = true then ((bestI gs bs seats (2 ^ gs.length)).1, (bestI gs bs seats (2 ^ gs.length)).2, 0) else ([], 0, 2) := by
    rw [invP, hk, if_neg (by omega), if_neg h20]
  refine RawC.walk (H := hint58 Try.prog) ir58 Try.func58 rfl rfl rfl ?_
  unfold ir58
  repeat' (first
    | with_reducible (first | refine Rd.p ?_ | refine zE ?_ | refine zE0 ?_)
    | with_reducible (first | refine zI fun y hy => ?_ | refine zL ?_ | refine zS ?_ | refine zA fun _ => ?_ | refine zV ?_ | refine zC ?_ | refine zG ?_ | refine zU ?_ | refine zG0 ?_ | refine zU0 ?_ | refine zF ?_)
    | ((with_reducible refine acall_id ?_); refine ACall.val (checkGuests_c gs hl0 hs) rfl rfl ?_)
    | with_reducible (first | refine zX ?_ | refine zD fun _ => ?_ | refine zD0 ?_ | refine zN ?_ | refine zF0 ?_ | refine zX0 ?_ | refine z1 ?_ | refine z2 ?_ | refine z3 ?_ | refine z4 ?_ | refine z5 ?_ | refine z6 ?_ | refine z7 ?_ | refine z8 ?_ | refine y1 ?_ | refine y2 ?_ | refine y3 ?_ | refine y4 ?_ | refine y5 ?_ | refine y6 ?_ | refine y7 ?_ | refine y8 ?_ | refine Rt.p (fun _ => ?_) fun _ => ?_)
    | ((with_reducible apply w_ixM); (focus exact rfl); (focus exact rfl); case' hk => intro y hy) | ((with_reducible (first | apply w_val | apply q_ends)); (focus exact rfl)))
  refine w_loopK [0, 1, 2, 6, 7, 29, 30] [] (fun x : List Bond × List Bond => bs = x.1 ++ x.2 ∧ bsErr gs.length bs = bsErr gs.length x.2) (fun x => x.2.length) (fun x => [(31, .int .i64 x.1.length)]) (fun _ => []) ([], bs) ⟨rfl, rfl⟩ ⟨rfl, trivial⟩ trivial ?_
  rintro ⟨pre, post⟩ ⟨hp, hb⟩ e σ
  dsimp only at hp hb ⊢
  have hlen := congrArg List.length hp
  cases post with
  | cons c post =>
    simp only [List.length_append, List.length_cons] at hlen
    rw [bsErr] at hb
    repeat' (first
      | with_reducible (first | refine Rd.p ?_ | refine zE ?_ | refine zE0 ?_)
      | (refine w_ixP hp rfl rfl ?_)
      | with_reducible (first | refine zI fun y hy => ?_ | refine zL ?_ | refine zS ?_ | refine zA fun _ => ?_ | refine zV ?_ | refine zC ?_ | refine zG ?_ | refine zU ?_ | refine zG0 ?_ | refine zU0 ?_ | refine zF ?_)
      | ((with_reducible refine acall_id ?_); refine ACall.val (checkBond_c c gs.length (by omega)) rfl rfl ?_)
      | with_reducible (first | refine zX ?_ | refine zD fun _ => ?_ | refine zD0 ?_ | refine zN ?_ | refine zF0 ?_ | refine zX0 ?_ | refine z1 ?_ | refine z2 ?_ | refine z3 ?_ | refine z4 ?_ | refine z5 ?_ | refine z6 ?_ | refine z7 ?_ | refine z8 ?_ | refine y1 ?_ | refine y2 ?_ | refine y3 ?_ | refine y4 ?_ | refine y5 ?_ | refine y6 ?_ | refine y7 ?_ | refine y8 ?_ | refine Rt.p (fun _ => ?_) fun _ => ?_)
      | ((with_reducible apply w_ixM); (focus exact rfl); (focus exact rfl); case' hk => intro y hy) | ((with_reducible (first | apply w_val | apply q_ends)); (focus exact rfl)))
    · rename_i h
      rw [if_neg h] at hb
      rw [hP, hb, if_pos h]; rfl
    · rename_i h
      rw [if_pos (Decidable.not_not.1 h)] at hb
      refine zQ (pre ++ [c], post) ?_ ?_
      · dsimp only
        exact ⟨by rw [hp]; simp, hb⟩
      · simp
  | nil =>
    simp only [List.append_nil, List.length_append, List.length_nil] at hlen
    have hb' : bsErr gs.length bs = 0 := hb
    rw [if_neg (by omega)] at hP
    by_cases hin : inB seats 0 7 = true
    case neg =>
      rw [if_neg hin] at hP
      have hin' : inB seats 0 7 = false := by simpa using hin
      repeat' (first
        | with_reducible (first | refine Rd.p ?_ | refine zE ?_ | refine zE0 ?_)
        | with_reducible (first | refine zI fun y hy => ?_ | refine zL ?_ | refine zS ?_ | refine zA fun _ => ?_ | refine zV ?_ | refine zC ?_ | refine zG ?_ | refine zU ?_ | refine zG0 ?_ | refine zU0 ?_ | refine zF ?_)
        | ((with_reducible refine acall_id ?_); refine ACall.val (in_c seats 0 7) rfl rfl ?_)
        | with_reducible (first | refine zX ?_ | refine zD fun _ => ?_ | refine zD0 ?_ | refine zN ?_ | refine zF0 ?_ | refine zX0 ?_ | refine z1 ?_ | refine z2 ?_ | refine z3 ?_ | refine z4 ?_ | refine z5 ?_ | refine z6 ?_ | refine z7 ?_ | refine z8 ?_ | refine y1 ?_ | refine y2 ?_ | refine y3 ?_ | refine y4 ?_ | refine y5 ?_ | refine y6 ?_ | refine y7 ?_ | refine y8 ?_ | refine Rt.p (fun _ => ?_) fun _ => ?_)
        | ((with_reducible apply w_ixM); (focus exact rfl); (focus exact rfl); case' hk => intro y hy) | ((with_reducible (first | apply w_val | apply q_ends)); (focus exact rfl)))
      rw [hP]; rfl
    rw [if_pos hin] at hP
    have hsr := inB_t.1 hin
    have hG := bestI_K gs bs seats hsr.1
    have hsh := shl_one gs.length (by omega)
    have hpw := pow_bd gs.length (by omega)
    have hini : inI ((2 ^ gs.length : Nat) : Int) := by unfold inI; generalize 2 ^ gs.length = q at hpw ⊢; omega
    have hex := bsErr_each hb'
    repeat' (first
      | with_reducible (first | refine Rd.p ?_ | refine zE ?_ | refine zE0 ?_)
      | with_reducible (first | refine zI fun y hy => ?_ | refine zL ?_ | refine zS ?_ | refine zA fun _ => ?_)
      | ((with_reducible apply w_ixM); (focus exact rfl); (focus exact rfl); (focus ((repeat' (with_reducible (first | exact trivial | apply And.intro))) <;> (first | (rw [hsh]; exact hini) | exact sd))); case' hk => intro y hy) | ((with_reducible apply w_slM); (focus exact rfl); (focus exact rfl); (focus exact rfl); (focus ((repeat' (with_reducible (first | exact trivial | apply And.intro))) <;> (first | (rw [hsh]; exact hini) | exact sd)))) | ((with_reducible apply w_val); (focus exact rfl); (focus ((repeat' (with_reducible (first | exact trivial | apply And.intro))) <;> (first | (rw [hsh]; exact hini) | exact sd)))) | ((with_reducible apply w_det); (focus exact fun _ => rfl); (focus ((repeat' (with_reducible (first | exact trivial | apply And.intro))) <;> (first | (rw [hsh]; exact hini) | exact sd))); case' hk => intro _) | ((with_reducible apply w_det0); (focus exact fun _ => rfl); (focus ((repeat' (with_reducible (first | exact trivial | apply And.intro))) <;> (first | (rw [hsh]; exact hini) | exact sd)))) | ((with_reducible apply q_ends); (focus exact rfl); (focus ((repeat' (with_reducible (first | exact trivial | apply And.intro))) <;> (first | (rw [hsh]; exact hini) | exact sd))))
      | with_reducible (first | refine zI fun y hy => ?_ | refine zL ?_ | refine zS ?_ | refine zA fun _ => ?_ | refine zV ?_ | refine zC ?_ | refine zG ?_ | refine zU ?_ | refine zG0 ?_ | refine zU0 ?_ | refine zF ?_)
      | ((with_reducible refine acall_id ?_); refine ACall.val (in_c seats 0 7) rfl rfl ?_)
      | with_reducible (first | refine zX ?_ | refine zD fun _ => ?_ | refine zD0 ?_ | refine zN ?_ | refine zF0 ?_ | refine zX0 ?_ | refine z1 ?_ | refine z2 ?_ | refine z3 ?_ | refine z4 ?_ | refine z5 ?_ | refine z6 ?_ | refine z7 ?_ | refine z8 ?_ | refine y1 ?_ | refine y2 ?_ | refine y3 ?_ | refine y4 ?_ | refine y5 ?_ | refine y6 ?_ | refine y7 ?_ | refine y8 ?_ | refine Rt.p (fun _ => ?_) fun _ => ?_)
      | ((with_reducible apply w_ixM); (focus exact rfl); (focus exact rfl); case' hk => intro y hy) | ((with_reducible (first | apply w_val | apply q_ends)); (focus exact rfl)))
    refine w_loopK [0, 1, 2, 48] [] (fun k : Nat => k ≤ 2 ^ gs.length) (fun k => 2 ^ gs.length - k) (fun k => [(49, .int .i64 k), (6, lstV (bestI gs bs seats k).1), (7, .int .i64 (bestI gs bs seats k).2)]) (fun _ => []) 0 (Nat.zero_le _) ⟨rfl, rfl, rfl, trivial⟩ trivial ?_
    rintro k hkn e2 σ2
    obtain ⟨o, c, hB⟩ : ∃ o c, bestI gs bs seats k = (o, c) := ⟨_, _, rfl⟩
    have hK := hG k hkn
    have hstep := bestI_succ gs bs seats k
    rw [hB] at hK hstep
    have hoL := hK.inc.len
    have hcb : 0 ≤ c ∧ c ≤ 1000 * o.length := by have := honS_bd hhon o; rw [← show c = _ from hK.eq] at this; exact this
    simp only [hB]
    by_cases hke : k = 2 ^ gs.length
    · rw [hke] at hB
      have hfin : ¬ (k : Int) < 1 * 2 ^ min ((gs.length : Int)).toNat IntKind.i64.bits := by rw [hsh, hke]; omega
      cases o with
      | nil =>
        repeat' (first
          | with_reducible (first | refine Rd.p ?_ | refine zE ?_ | refine zE0 ?_)
          | with_reducible (first | refine zI fun y hy => ?_ | refine zL ?_ | refine zS ?_ | refine zA fun _ => ?_ | refine zV ?_ | refine zC ?_ | refine zG ?_ | refine zU ?_ | refine zG0 ?_ | refine zU0 ?_ | refine zF ?_)
          | with_reducible (first | refine zX ?_ | refine zD fun _ => ?_ | refine zD0 ?_ | refine zN ?_ | refine zF0 ?_ | refine zX0 ?_ | refine z1 ?_ | refine z2 ?_ | refine z3 ?_ | refine z4 ?_ | refine z5 ?_ | refine z6 ?_ | refine z7 ?_ | refine z8 ?_ | refine y1 ?_ | refine y2 ?_ | refine y3 ?_ | refine y4 ?_ | refine y5 ?_ | refine y6 ?_ | refine y7 ?_ | refine y8 ?_ | refine Rt.p (fun _ => ?_) fun _ => ?_)
          | ((with_reducible apply w_ixM); (focus exact rfl); (focus exact rfl); case' hk => intro y hy) | ((with_reducible (first | apply w_val | apply q_ends)); (focus exact rfl)))
        rw [hP, hB]; rfl
      | cons o1 o2 =>
        repeat' (first
          | with_reducible (first | refine Rd.p ?_ | refine zE ?_ | refine zE0 ?_)
          | with_reducible (first | refine zI fun y hy => ?_ | refine zL ?_ | refine zS ?_ | refine zA fun _ => ?_ | refine zV ?_ | refine zC ?_ | refine zG ?_ | refine zU ?_ | refine zG0 ?_ | refine zU0 ?_ | refine zF ?_)
          | with_reducible (first | refine zX ?_ | refine zD fun _ => ?_ | refine zD0 ?_ | refine zN ?_ | refine zF0 ?_ | refine zX0 ?_ | refine z1 ?_ | refine z2 ?_ | refine z3 ?_ | refine z4 ?_ | refine z5 ?_ | refine z6 ?_ | refine z7 ?_ | refine z8 ?_ | refine y1 ?_ | refine y2 ?_ | refine y3 ?_ | refine y4 ?_ | refine y5 ?_ | refine y6 ?_ | refine y7 ?_ | refine y8 ?_ | refine Rt.p (fun _ => ?_) fun _ => ?_)
          | ((with_reducible apply w_ixM); (focus exact rfl); (focus exact rfl); case' hk => intro y hy) | ((with_reducible (first | apply w_val | apply q_ends)); (focus exact rfl)))
        rw [hP, hB]; rfl
    have hlt : (k : Int) < 1 * 2 ^ min ((gs.length : Int)).toNat IntKind.i64.bits := by rw [hsh]; omega
    have hk2 : k < 2 ^ gs.length := by omega
    have hk62 : k < 2 ^ 62 := Nat.lt_of_lt_of_le hk2 (Nat.pow_le_pow_right (by omega) (by omega))
    have hL : inc gs.length (membersL k) := inc_members hk2
    have hLl := hL.len
    have hany := any_bonds hk62 hb'
    have hk0 : k = 0 → o = [] ∧ c = 0 := fun h => by subst h; rw [bestI_ne] at hB; cases hB; exact ⟨rfl, rfl⟩
    have hokI : okI bs seats (membersL k) = (decide (((membersL k).length : Int) ≤ seats) && bs.all (bondL (membersL k))) := rfl
    have hbdb : ∀ x ∈ bs, (0 ≤ x.a ∧ x.a < 62) ∧ 0 ≤ x.b ∧ x.b < 62 := fun x hx => by have := bErr_inv (hex x hx); omega
    have hsk : okI bs seats (membersL k) = false → bestI gs bs seats (k + 1) = (o, c) := fun h => by rw [hstep, stepI, if_neg (by rw [h]; simp)]
    repeat' (first
      | with_reducible (first | refine Rd.p ?_ | refine zE ?_ | refine zE0 ?_)
      | with_reducible (first | refine zI fun y hy => ?_ | refine zL ?_ | refine zS ?_ | refine zA fun _ => ?_ | refine zV ?_ | refine zC ?_ | refine zG ?_ | refine zU ?_ | refine zG0 ?_ | refine zU0 ?_ | refine zF ?_)
      | ((with_reducible refine acall_id ?_); refine ACall.val (members_c k hk62) rfl rfl ?_)
      | ((with_reducible refine acall_id ?_); refine ACall.liftS (conB_c _ bs k hk62 (by omega) hbdb) [(1000, 13)] none rfl rfl rfl ⟨⟨_, rfl⟩, trivial⟩ (fun _ => rfl) ?_; rintro _ _ rfl)
      | with_reducible (first | refine zX ?_ | refine zD fun _ => ?_ | refine zD0 ?_ | refine zN ?_ | refine zF0 ?_ | refine zX0 ?_ | refine z1 ?_ | refine z2 ?_ | refine z3 ?_ | refine z4 ?_ | refine z5 ?_ | refine z6 ?_ | refine z7 ?_ | refine z8 ?_ | refine y1 ?_ | refine y2 ?_ | refine y3 ?_ | refine y4 ?_ | refine y5 ?_ | refine y6 ?_ | refine y7 ?_ | refine y8 ?_ | refine Rt.p (fun _ => ?_) fun _ => ?_)
      | ((with_reducible apply w_ixM); (focus exact rfl); (focus exact rfl); case' hk => intro y hy) | ((with_reducible (first | apply w_val | apply q_ends)); (focus exact rfl)))
    · rename_i h
      have hS := hsk (by rw [hokI, decide_eq_false (by omega)]; rfl)
      refine zQ (k + 1) ?_ ?_
      · exact hk2
      · omega
    · rename_i h
      rw [hany] at h
      have hS := hsk (by rw [hokI]; simp at h; simp [h])
      refine zQ (k + 1) ?_ ?_
      · exact hk2
      · omega
    · rename_i h1 _ h
      rw [hany] at h
      have hok : okI bs seats (membersL k) = true := by rw [hokI, decide_eq_true (by omega)]; simpa using h
      rw [stepI, if_pos hok] at hstep
      refine w_loopK [0, 1, 2, 6, 7, 14, 48, 49, 63, 64] [] (fun x : List Int × List Int => membersL k = x.1 ++ x.2) (fun x => x.2.length) (fun x => [(65, .int .i64 x.1.length), (15, .int .i64 (honS gs x.1))]) (fun _ => []) ([], membersL k) rfl ⟨rfl, rfl, trivial⟩ trivial ?_
      rintro ⟨pre2, post2⟩ hp2 e3 σ3
      dsimp only at hp2 ⊢
      have hlen2 := congrArg List.length hp2
      have hpb := honS_bd hhon pre2
      cases post2 with
      | cons i post2 =>
        simp only [List.length_append, List.length_cons] at hlen2
        have hi := hL.bd i (by rw [hp2]; simp)
        have hw := honG_bd hhon i
        have hsn := honS_snoc gs i pre2
        have hwy : ∀ {y : Guest}, gs[i.toNat]? = some y → y.honour = honG gs i := fun h => by simp [honG, h]
        repeat' (first
          | with_reducible (first | refine Rd.p ?_ | refine zE ?_ | refine zE0 ?_)
          | (refine w_ixP hp2 rfl rfl ?_)
          | with_reducible (first | refine zI fun y hy => ?_ | refine zL ?_ | refine zS ?_ | refine zA fun _ => ?_ | refine zV ?_ | refine zC ?_ | refine zG ?_ | refine zU ?_ | refine zG0 ?_ | refine zU0 ?_ | refine zF ?_)
          | ((with_reducible refine acall_id ?_); refine ACall.val (sum2_c (honS gs pre2) y.honour (by omega) (by rw [hwy hy]; omega)) rfl rfl ?_)
          | with_reducible (first | refine zX ?_ | refine zD fun _ => ?_ | refine zD0 ?_ | refine zN ?_ | refine zF0 ?_ | refine zX0 ?_ | refine z1 ?_ | refine z2 ?_ | refine z3 ?_ | refine z4 ?_ | refine z5 ?_ | refine z6 ?_ | refine z7 ?_ | refine z8 ?_ | refine y1 ?_ | refine y2 ?_ | refine y3 ?_ | refine y4 ?_ | refine y5 ?_ | refine y6 ?_ | refine y7 ?_ | refine y8 ?_ | refine Rt.p (fun _ => ?_) fun _ => ?_)
          | ((with_reducible apply w_ixM); (focus exact rfl); (focus exact rfl); case' hk => intro y hy) | ((with_reducible (first | apply w_val | apply q_ends)); (focus exact rfl)))
        rw [hwy hy]
        refine zQ (pre2 ++ [i], post2) ?_ ?_
        · rw [hp2]; simp
        · simp
      | nil =>
        simp only [List.append_nil, List.length_append, List.length_nil] at hlen2 hp2
        subst hp2
        cases o with
        | nil =>
          repeat' (first
            | with_reducible (first | refine Rd.p ?_ | refine zE ?_ | refine zE0 ?_)
            | with_reducible (first | refine zI fun y hy => ?_ | refine zL ?_ | refine zS ?_ | refine zA fun _ => ?_ | refine zV ?_ | refine zC ?_ | refine zG ?_ | refine zU ?_ | refine zG0 ?_ | refine zU0 ?_ | refine zF ?_)
            | ((with_reducible refine acall_id ?_); refine ACall.lists (a := membersL k) (b := []) (by omega) (by simp) ?_)
            | with_reducible (first | refine zX ?_ | refine zD fun _ => ?_ | refine zD0 ?_ | refine zN ?_ | refine zF0 ?_ | refine zX0 ?_ | refine z1 ?_ | refine z2 ?_ | refine z3 ?_ | refine z4 ?_ | refine z5 ?_ | refine z6 ?_ | refine z7 ?_ | refine z8 ?_ | refine y1 ?_ | refine y2 ?_ | refine y3 ?_ | refine y4 ?_ | refine y5 ?_ | refine y6 ?_ | refine y7 ?_ | refine y8 ?_ | refine Rt.p (fun _ => ?_) fun _ => ?_)
            | ((with_reducible apply w_ixM); (focus exact rfl); (focus exact rfl); case' hk => intro y hy) | ((with_reducible (first | apply w_val | apply q_ends)); (focus exact rfl)))
          all_goals first | (have hup : bestI gs bs seats (k + 1) = (membersL k, honS gs (membersL k)) := (by rw [hstep, if_pos (by dsimp only; omega)]); have hne := inv_upd gs hk62 hk0 hcb.1 (by omega); refine q_loop (k + 1) ?_ ?_ (by exact ⟨rfl, (by rw [hup]; exact (lstV_ne hne).symm), (by rw [hup]; rfl), trivial⟩) (by repeat' (first | exact slots_nil | apply slots_cons | rfl | (rw [map_snoc]; rfl) | (rw [len_snoc]; rfl) | (rw [hS]; rfl) | (rw [hS, map_snoc]; rfl) | (refine int_eq ?_; (try dsimp only); omega) | (refine congrArg AV.bool ?_; simp_all; done))) (by repeat' (first | exact kept_nil | apply kept_cons | rfl)) (by repeat' (first | exact kept_nil | apply kept_cons | rfl)) <;> omega) | (have hS : bestI gs bs seats (k + 1) = ([], c) := (by rw [hstep, if_neg (by dsimp only; omega)]); refine zQ (k + 1) ?_ ?_ <;> omega)
        | cons o1 o2 =>
          repeat' (first
            | with_reducible (first | refine Rd.p ?_ | refine zE ?_ | refine zE0 ?_)
            | with_reducible (first | refine zI fun y hy => ?_ | refine zL ?_ | refine zS ?_ | refine zA fun _ => ?_ | refine zV ?_ | refine zC ?_ | refine zG ?_ | refine zU ?_ | refine zG0 ?_ | refine zU0 ?_ | refine zF ?_)
            | ((with_reducible refine acall_id ?_); refine ACall.lists (a := membersL k) (b := (o1 :: o2)) (by omega) (by exact Nat.lt_of_le_of_lt hoL (by omega)) ?_)
            | with_reducible (first | refine zX ?_ | refine zD fun _ => ?_ | refine zD0 ?_ | refine zN ?_ | refine zF0 ?_ | refine zX0 ?_ | refine z1 ?_ | refine z2 ?_ | refine z3 ?_ | refine z4 ?_ | refine z5 ?_ | refine z6 ?_ | refine z7 ?_ | refine z8 ?_ | refine y1 ?_ | refine y2 ?_ | refine y3 ?_ | refine y4 ?_ | refine y5 ?_ | refine y6 ?_ | refine y7 ?_ | refine y8 ?_ | refine Rt.p (fun _ => ?_) fun _ => ?_)
            | ((with_reducible apply w_ixM); (focus exact rfl); (focus exact rfl); case' hk => intro y hy) | ((with_reducible (first | apply w_val | apply q_ends)); (focus exact rfl)))
          all_goals first | (have hup : bestI gs bs seats (k + 1) = (membersL k, honS gs (membersL k)) := (by rw [hstep, if_pos (by dsimp only; omega)]); have hne := inv_upd gs hk62 hk0 hcb.1 (by omega); refine q_loop (k + 1) ?_ ?_ (by exact ⟨rfl, (by rw [hup]; exact (lstV_ne hne).symm), (by rw [hup]; rfl), trivial⟩) (by repeat' (first | exact slots_nil | apply slots_cons | rfl | (rw [map_snoc]; rfl) | (rw [len_snoc]; rfl) | (rw [hS]; rfl) | (rw [hS, map_snoc]; rfl) | (refine int_eq ?_; (try dsimp only); omega) | (refine congrArg AV.bool ?_; simp_all; done))) (by repeat' (first | exact kept_nil | apply kept_cons | rfl)) (by repeat' (first | exact kept_nil | apply kept_cons | rfl)) <;> omega) | (have hS : bestI gs bs seats (k + 1) = ((o1 :: o2), c) := (by rw [hstep, if_neg (by dsimp only; omega)]); refine zQ (k + 1) ?_ ?_ <;> omega)
end Go.Abs
