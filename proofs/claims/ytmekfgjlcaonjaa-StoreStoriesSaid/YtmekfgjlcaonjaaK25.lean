/- A part of the proofs of the laws of this seat: contracts of the functions that they reach, each proved of the program's form in Lean. No condition beyond those that each contract names. -/
import Derived.Test.YtmekfgjlcaonjaaK24
import Derived.Test.YtmekfgjlcaonjaaK23
import Derived.Test.YtmekfgjlcaonjaaK22
import Derived.Test.YtmekfgjlcaonjaaK21
import Derived.Test.YtmekfgjlcaonjaaK20
import Derived.Test.YtmekfgjlcaonjaaK19
import Derived.Test.YtmekfgjlcaonjaaK18
import Derived.Test.YtmekfgjlcaonjaaK17
import Derived.Test.YtmekfgjlcaonjaaK16
import Derived.Test.YtmekfgjlcaonjaaK15
import Derived.Test.YtmekfgjlcaonjaaK14
import Derived.Test.YtmekfgjlcaonjaaK13
import Derived.Test.YtmekfgjlcaonjaaK12
import Derived.Test.YtmekfgjlcaonjaaD1
import Derived.Test.YtmekfgjlcaonjaaC3
import Derived.Test.YtmekfgjlcaonjaaC2
import Derived.Test.YtmekfgjlcaonjaaC1
import Derived.Test.YtmekfgjlcaonjaaB
import Derived.Test.YtmekfgjlcaonjaaD8
import Derived.Test.YtmekfgjlcaonjaaC13
import Derived.Test.YtmekfgjlcaonjaaC12
import Derived.Test.YtmekfgjlcaonjaaC11
import Derived.Test.YtmekfgjlcaonjaaC10
import Derived.Test.YtmekfgjlcaonjaaC9
import Derived.Test.YtmekfgjlcaonjaaC8
import Derived.Test.YtmekfgjlcaonjaaC7
import Derived.Test.YtmekfgjlcaonjaaC5
import Derived.Test.YtmekfgjlcaonjaaC4
import Derived.Test.YtmekfgjlcaonjaaD7
import Derived.Test.YtmekfgjlcaonjaaC6
import Derived.Test.YtmekfgjlcaonjaaK58
set_option linter.unusedVariables false
set_option linter.unusedSimpArgs false
set_option maxRecDepth 20000
set_option maxHeartbeats 1000000
namespace Go.Abs
open Go.Proofs
/-- The days from which the next one is chosen. -/
def dayR (c : Chn) (o ds : List Int) : Int × Int := if ds.length = 0 then (c.lo, c.hi) else ((lkAt c.ls (getI o (ds.length - 1 : Nat))).lo, (lkAt c.ls (getI o (ds.length - 1 : Nat))).hi)
def dayB (ds : List Int) (d : Int) : Bool := decide (ds.length = 0) || decide (getI ds (ds.length - 1 : Nat) < d)
def extD (c : Chn) (o : List Int) : Nat → List Int → List (List Int)
  | 0, ds => [ds]
  | k + 1, ds => ((rngI (dayR c o ds).1 (dayR c o ds).2).filter (dayB ds)).flatMap fun d => extD c o k (ds ++ [d])
def tellX (c : Chn) (o : List Int) (X : List (List Int)) (S : Told) : Told := X.foldl (fun S ds => tell1 c o ds S) S
theorem tellX_app (c : Chn) (o : List Int) (X Y : List (List Int)) (S : Told) : tellX c o (X ++ Y) S = tellX c o Y (tellX c o X S) := List.foldl_append
theorem rngI_nil {a b : Int} (h : b < a) : rngI a b = [] := by
  unfold rngI
  rw [show (b - a + 1).toNat = 0 by omega]; rfl
theorem rngI_cons {a b : Int} (h : a ≤ b) : rngI a b = a :: rngI (a + 1) b := by
  unfold rngI
  rw [show (b - a + 1).toNat = (b - (a + 1) + 1).toNat + 1 by omega, List.range_succ_eq_map, List.map_cons, List.map_map]
  simp only [Int.natCast_zero, Int.add_zero, List.cons.injEq, true_and]
  refine List.map_congr_left fun k _ => ?_
  simp only [Function.comp, Int.natCast_succ]
  omega
theorem ren1000 : renOK (rhoT 1000 1001 1002) = true := by decide
theorem t_upd {G : TPl} {S : Told} {σ : Sig} {i : Nat} {v : Nat × Res} (hi : i < 1000) (h : slots (tRows 1000 1001 1002 G S) σ) : slots (tRows 1000 1001 1002 G S) (upd σ i v) := by
  rw [slots_iff] at h ⊢
  intro x hx
  rw [← h x hx, upd_eq, if_neg]
  rintro e
  rcases List.mem_cons.1 hx with rfl | hx
  · dsimp only at e; omega
  rcases List.mem_cons.1 hx with rfl | hx
  · dsimp only at e; omega
  rcases List.mem_cons.1 hx with rfl | hx
  · dsimp only at e; omega
  obtain ⟨j, _, rfl⟩ := List.mem_map.1 hx
  dsimp only at e
  omega
theorem t_newS {G : TPl} {S : Told} {σ : Sig} {i g : Nat} {c : List AV} (hi : i < 1000) (h : slots (tRows 1000 1001 1002 G S) σ) : slots (tRows 1000 1001 1002 G S) (newS σ i g c) := t_upd hi h
theorem t_cons {G : TPl} {S : Told} {σ : Sig} {i : Nat} {v : Nat × Res} {l : List (Nat × (Nat × Res))} (hi : i < 1000) (h : slots (tRows 1000 1001 1002 G S) (updL l σ)) : slots (tRows 1000 1001 1002 G S) (updL ((i, v) :: l) σ) := t_upd hi h
theorem t_own {G : TPl} {S : Told} {σ : Sig} : slots (tRows 1000 1001 1002 G S) (updL (tRows 1000 1001 1002 G S) σ) := t_slots (by decide) (by decide) (by decide) (by decide) (by decide) (by decide)
theorem t_low {G : TPl} {S : Told} {σ : Sig} {i : Nat} (hi : i < 1000) : updL (tRows 1000 1001 1002 G S) σ i = σ i := t_out (by omega) (by omega) (by omega) fun k _ => by omega
theorem tell_step (c : Chn) (ok : Okc c) (o : List Int) (G : TPl) (hG : G.tg = .non) (hn : G.nL = c.ls.length) (hb : ∀ i ∈ o, 0 ≤ i ∧ i < c.ls.length) (hl : o.length ≤ 4) (k : Nat)
    (IH : ∀ (ds : List Int) (S : Told), ds.length + k = o.length + 1 → RawC Try.prog 35 [cA c, .slc 1 (iR o) .non, .slc 1 (iR ds) .non, .ref 1000 G.gp 0] (sg (tRows 1000 1001 1002 G S)) (fun v σ' => v = .tup [] ∧ slots (tRows 1000 1001 1002 G (tellX c o (extD c o k ds) S)) σ'))
    (ds : List Int) (S : Told) (hd : ds.length + (k + 1) = o.length + 1) :
    RawC Try.prog 35 [cA c, .slc 1 (iR o) .non, .slc 1 (iR ds) .non, .ref 1000 G.gp 0] (sg (tRows 1000 1001 1002 G S)) (fun v σ' => v = .tup [] ∧ slots (tRows 1000 1001 1002 G (tellX c o (extD c o (k + 1) ds) S)) σ') := by
  have hok := ok.n
  have hno : ¬ (ds.length : Int) = o.length + 1 := by omega
  have hIn := intsQ_c ds (by omega)
  obtain ⟨T, hT⟩ : ∃ T, T = tellX c o (extD c o (k + 1) ds) S := ⟨_, rfl⟩
  rw [← hT]
  rw [extD] at hT
  by_cases h0 : ds.length = 0
  · obtain rfl : ds = [] := List.eq_nil_of_length_eq_zero h0
    have hr : dayR c o [] = (c.lo, c.hi) := rfl
    have hB : ∀ l : List Int, l.filter (dayB []) = l := fun l => List.filter_eq_self.2 fun _ _ => rfl
    rw [hr, hB] at hT
    dsimp only at hT
    obtain ⟨m1, m2, m3, m4, m5⟩ := ok.m
    refine RawC.walk (H := hint35 Try.prog) ir35 Try.func35 rfl rfl rfl ?_
    unfold ir35
    rw [sg_updL]
    obtain ⟨gp, gq, gr, nL, hs, tg⟩ := G
    obtain rfl : tg = .non := hG
    dsimp only at hn ⊢
    repeat' (first
      | with_reducible (first | refine Rd.p ?_ | refine w_alt ?_ ?_ | refine zE ?_ | refine zE0 ?_)
      | with_reducible (first | refine zI fun y hy => ?_ | refine zL ?_ | refine zS ?_ | refine zA fun _ => ?_ | refine zV ?_ | refine zC ?_ | refine zG ?_ | refine zU ?_ | refine zG0 ?_ | refine zU0 ?_ | refine zF ?_)
      | with_reducible (first | refine zX ?_ | refine zD fun _ => ?_ | refine zD0 ?_ | refine zN ?_ | refine zF0 ?_ | refine zX0 ?_ | refine z1 ?_ | refine z2 ?_ | refine z3 ?_ | refine z4 ?_ | refine z5 ?_ | refine z6 ?_ | refine z7 ?_ | refine z8 ?_ | refine y1 ?_ | refine y2 ?_ | refine y3 ?_ | refine y4 ?_ | refine y5 ?_ | refine y6 ?_ | refine y7 ?_ | refine y8 ?_ | refine Rt.p (fun _ => ?_) fun _ => ?_)
      | ((with_reducible apply w_ixM); (focus exact rfl); (focus exact rfl); case' hk => intro y hy) | ((with_reducible (first | apply w_val | apply q_ends)); (focus exact rfl)))
    rename_i g4 g11
    refine w_loopK [1, 2, 3, 4, 11] [] (fun x : Int × Told => c.lo ≤ x.1 ∧ x.1 ≤ c.hi + 1 ∧ T = tellX c o (List.flatMap (fun d => extD c o k ([] ++ [d])) (rngI x.1 c.hi)) x.2) (fun x => (c.hi + 1 - x.1).toNat) (fun x => [(12, .int .i64 x.1)]) (fun x => (11, (g11, .row [.int .i64 c.lo, .int .i64 c.hi])) :: (4, (g4, .row (cC c))) :: tRows 1000 1001 1002 ⟨gp, gq, gr, nL, hs, .non⟩ x.2) (c.lo, S) ⟨Int.le_refl _, by dsimp only; omega, hT⟩ ⟨rfl, trivial⟩ ⟨rfl, rfl, t_upd (by decide) (t_upd (by decide) (t_upd (by decide) t_own))⟩ ?_
    clear hT
    rintro ⟨d, S1⟩ ⟨hd1, hd2, hT⟩ e σ
    dsimp only at hd1 hd2 hT ⊢
    by_cases hdd : c.hi < d
    · rw [rngI_nil hdd] at hT
      obtain rfl : T = S1 := hT
      repeat' (first
        | with_reducible (first | refine Rd.p ?_ | refine w_alt ?_ ?_ | refine zE ?_ | refine zE0 ?_)
        | with_reducible (first | refine zI fun y hy => ?_ | refine zL ?_ | refine zS ?_ | refine zA fun _ => ?_ | refine zV ?_ | refine zC ?_ | refine zG ?_ | refine zU ?_ | refine zG0 ?_ | refine zU0 ?_ | refine zF ?_)
        | with_reducible (first | refine zX ?_ | refine zD fun _ => ?_ | refine zD0 ?_ | refine zN ?_ | refine zF0 ?_ | refine zX0 ?_ | refine z1 ?_ | refine z2 ?_ | refine z3 ?_ | refine z4 ?_ | refine z5 ?_ | refine z6 ?_ | refine z7 ?_ | refine z8 ?_ | refine y1 ?_ | refine y2 ?_ | refine y3 ?_ | refine y4 ?_ | refine y5 ?_ | refine y6 ?_ | refine y7 ?_ | refine y8 ?_ | refine Rt.p (fun _ => ?_) fun _ => ?_)
        | ((with_reducible apply w_ixM); (focus exact rfl); (focus exact rfl); case' hk => intro y hy) | ((with_reducible (first | apply w_val | apply q_ends)); (focus exact rfl)))
      exact ⟨rfl, t_upd (by decide) (t_upd (by decide) t_own)⟩
    rw [rngI_cons (by omega), List.flatMap_cons, tellX_app] at hT
    have hI := IH [d] S1 (by simp at hd ⊢; omega)
    have hT : T = tellX c o (List.flatMap (fun d => extD c o k ([] ++ [d])) (rngI (d + 1) c.hi)) (tellX c o (extD c o k [d]) S1) := hT
    generalize tellX c o (extD c o k [d]) S1 = S2 at *
    repeat' (first
      | with_reducible (first | refine Rd.p ?_ | refine w_alt ?_ ?_ | refine zE ?_ | refine zE0 ?_)
      | with_reducible (first | refine zI fun y hy => ?_ | refine zL ?_ | refine zS ?_ | refine zA fun _ => ?_ | refine zV ?_ | refine zC ?_ | refine zG ?_ | refine zU ?_ | refine zG0 ?_ | refine zU0 ?_ | refine zF ?_)
      | ((with_reducible refine acall_id ?_); refine ACall.liftS hIn [] (some 2) rfl rfl rfl trivial (fun _ => rfl) ?_; rintro gI _ rfl)
      | ((with_reducible refine acall_id ?_); refine ACall.told hI (p := 1000) (q := 1001) (r := 1002) ren1000 (by decide) (by decide) (by decide) (by decide) (by decide) (by decide) rfl (t := .non) (.inr rfl) (by repeat' (first | with_reducible exact t_own | with_reducible refine t_newS (by decide) ?_ | with_reducible refine t_cons (by decide) ?_ | with_reducible refine t_upd (by decide) ?_ | refine t_upd (by decide) ?_)) rfl ?_)
      | with_reducible (first | refine zX ?_ | refine zD fun _ => ?_ | refine zD0 ?_ | refine zN ?_ | refine zF0 ?_ | refine zX0 ?_ | refine z1 ?_ | refine z2 ?_ | refine z3 ?_ | refine z4 ?_ | refine z5 ?_ | refine z6 ?_ | refine z7 ?_ | refine z8 ?_ | refine y1 ?_ | refine y2 ?_ | refine y3 ?_ | refine y4 ?_ | refine y5 ?_ | refine y6 ?_ | refine y7 ?_ | refine y8 ?_ | refine Rt.p (fun _ => ?_) fun _ => ?_)
      | ((with_reducible apply w_ixM); (focus exact rfl); (focus exact rfl); case' hk => intro y hy) | ((with_reducible (first | apply w_val | apply q_ends)); (focus exact rfl)))
    exact q_loop (d + 1, S2) ⟨by show c.lo ≤ d + 1; omega, by show d + 1 ≤ c.hi + 1; omega, hT⟩ (by show (c.hi + 1 - (d + 1)).toNat < (c.hi + 1 - d).toNat; omega) (slots_cons rfl slots_nil) ⟨(t_low (by decide)).trans rfl, (t_low (by decide)).trans rfl, t_own⟩ (by repeat' (first | exact kept_nil | apply kept_cons | rfl)) (by repeat' (first | exact kept_nil | apply kept_cons | rfl))
  obtain ⟨j, hj⟩ : ∃ j, ds.length = j + 1 := ⟨ds.length - 1, by omega⟩
  obtain ⟨i0, hgi⟩ : ∃ z, o[j]? = some z := ⟨_, List.getElem?_eq_getElem (by omega)⟩
  obtain ⟨w, hgw⟩ : ∃ z, ds[j]? = some z := ⟨_, List.getElem?_eq_getElem (by omega)⟩
  obtain ⟨hi0, hi1⟩ := hb i0 (List.mem_of_getElem? hgi)
  obtain ⟨m, rfl⟩ : ∃ m : Nat, i0 = m := ⟨i0.toNat, by omega⟩
  obtain ⟨g, hg⟩ : ∃ g, c.ls[m]? = some g := ⟨_, List.getElem?_eq_getElem (by omega)⟩
  have hr : dayR c o ds = (g.lo, g.hi) := by
    unfold dayR
    rw [if_neg h0, hj, Nat.add_sub_cancel, getI_of (xs := o) (i := (j : Int)) (y := (m : Int)) (by rw [Int.toNat_natCast]; exact hgi), lkAt_get hg]
  have hB : dayB ds = fun d => decide (w < d) := by
    funext d
    unfold dayB
    rw [decide_eq_false h0, Bool.false_or, hj, Nat.add_sub_cancel, getI_of (xs := ds) (i := (j : Int)) (y := w) (by rw [Int.toNat_natCast]; exact hgw)]
  rw [hr, hB] at hT
  dsimp only at hT
  obtain ⟨m1, m2, m3, m4⟩ := ok.h g (List.mem_of_getElem? hg)
  refine RawC.walk (H := hint35 Try.prog) ir35 Try.func35 rfl rfl rfl ?_
  unfold ir35
  rw [sg_updL]
  obtain ⟨gp, gq, gr, nL, hs, tg⟩ := G
  obtain rfl : tg = .non := hG
  dsimp only at hn ⊢
  repeat' (first
    | with_reducible (first | refine Rd.p ?_ | refine w_alt ?_ ?_ | refine zE ?_ | refine zE0 ?_)
    | (first | refine w_ixE hgi rfl (by show AV.int .i64 _ = AV.int .i64 _; refine int_eq ?_; omega) ?_ | refine w_ixE (f := Lnk.row) hg rfl rfl ?_)
    | with_reducible (first | refine zI fun y hy => ?_ | refine zL ?_ | refine zS ?_ | refine zA fun _ => ?_ | refine zV ?_ | refine zC ?_ | refine zG ?_ | refine zU ?_ | refine zG0 ?_ | refine zU0 ?_ | refine zF ?_)
    | with_reducible (first | refine zX ?_ | refine zD fun _ => ?_ | refine zD0 ?_ | refine zN ?_ | refine zF0 ?_ | refine zX0 ?_ | refine z1 ?_ | refine z2 ?_ | refine z3 ?_ | refine z4 ?_ | refine z5 ?_ | refine z6 ?_ | refine z7 ?_ | refine z8 ?_ | refine y1 ?_ | refine y2 ?_ | refine y3 ?_ | refine y4 ?_ | refine y5 ?_ | refine y6 ?_ | refine y7 ?_ | refine y8 ?_ | refine Rt.p (fun _ => ?_) fun _ => ?_)
    | ((with_reducible apply w_ixM); (focus exact rfl); (focus exact rfl); case' hk => intro y hy) | ((with_reducible (first | apply w_val | apply q_ends)); (focus exact rfl)))
  rename_i g4 g11
  refine w_loopK [1, 2, 3, 4, 11] [] (fun x : Int × Told => g.lo ≤ x.1 ∧ (x.1 = g.lo ∨ x.1 ≤ g.hi + 1) ∧ T = tellX c o (List.flatMap (fun d => extD c o k (ds ++ [d])) ((rngI x.1 g.hi).filter fun d => decide (w < d))) x.2) (fun x => (g.hi + 1 - x.1).toNat) (fun x => [(12, .int .i64 x.1)]) (fun x => (11, (g11, .row [.int .i64 g.lo, .int .i64 g.hi])) :: (4, (g4, .row (cC c))) :: tRows 1000 1001 1002 ⟨gp, gq, gr, nL, hs, .non⟩ x.2) (g.lo, S) ⟨Int.le_refl _, .inl rfl, hT⟩ ⟨rfl, trivial⟩ ⟨rfl, rfl, t_upd (by decide) (t_upd (by decide) (t_upd (by decide) (t_upd (by decide) t_own)))⟩ ?_
  clear hT
  rintro ⟨d, S1⟩ ⟨hd1, hd2, hT⟩ e σ
  dsimp only at hd1 hd2 hT ⊢
  by_cases hdd : g.hi < d
  · rw [rngI_nil hdd] at hT
    obtain rfl : T = S1 := hT
    repeat' (first
      | with_reducible (first | refine Rd.p ?_ | refine w_alt ?_ ?_ | refine zE ?_ | refine zE0 ?_)
      | with_reducible (first | refine zI fun y hy => ?_ | refine zL ?_ | refine zS ?_ | refine zA fun _ => ?_ | refine zV ?_ | refine zC ?_ | refine zG ?_ | refine zU ?_ | refine zG0 ?_ | refine zU0 ?_ | refine zF ?_)
      | with_reducible (first | refine zX ?_ | refine zD fun _ => ?_ | refine zD0 ?_ | refine zN ?_ | refine zF0 ?_ | refine zX0 ?_ | refine z1 ?_ | refine z2 ?_ | refine z3 ?_ | refine z4 ?_ | refine z5 ?_ | refine z6 ?_ | refine z7 ?_ | refine z8 ?_ | refine y1 ?_ | refine y2 ?_ | refine y3 ?_ | refine y4 ?_ | refine y5 ?_ | refine y6 ?_ | refine y7 ?_ | refine y8 ?_ | refine Rt.p (fun _ => ?_) fun _ => ?_)
      | ((with_reducible apply w_ixM); (focus exact rfl); (focus exact rfl); case' hk => intro y hy) | ((with_reducible (first | apply w_val | apply q_ends)); (focus exact rfl)))
    exact ⟨rfl, t_upd (by decide) (t_upd (by decide) t_own)⟩
  rw [rngI_cons (by omega)] at hT
  by_cases hwd : w < d
  · rw [List.filter_cons_of_pos (by simpa using hwd), List.flatMap_cons, tellX_app] at hT
    have hI := IH (ds ++ [d]) S1 (by simp at hd ⊢; omega)
    generalize tellX c o (extD c o k (ds ++ [d])) S1 = S2 at *
    repeat' (first
      | with_reducible (first | refine Rd.p ?_ | refine w_alt ?_ ?_ | refine zE ?_ | refine zE0 ?_)
      | (first | refine w_ixE hgw rfl (by show AV.int .i64 _ = AV.int .i64 _; refine int_eq ?_; omega) ?_)
      | with_reducible (first | refine zI fun y hy => ?_ | refine zL ?_ | refine zS ?_ | refine zA fun _ => ?_ | refine zV ?_ | refine zC ?_ | refine zG ?_ | refine zU ?_ | refine zG0 ?_ | refine zU0 ?_ | refine zF ?_)
      | ((with_reducible refine acall_id ?_); refine ACall.liftS hIn [] (some 2) rfl rfl rfl trivial (fun _ => rfl) ?_; rintro gI _ rfl)
      | ((with_reducible refine acall_id ?_); refine ACall.told hI (p := 1000) (q := 1001) (r := 1002) ren1000 (by decide) (by decide) (by decide) (by decide) (by decide) (by decide) rfl (t := .non) (.inr rfl) (by repeat' (first | with_reducible exact t_own | with_reducible refine t_newS (by decide) ?_ | with_reducible refine t_cons (by decide) ?_ | with_reducible refine t_upd (by decide) ?_ | refine t_upd (by decide) ?_)) rfl ?_)
      | with_reducible (first | refine zX ?_ | refine zD fun _ => ?_ | refine zD0 ?_ | refine zN ?_ | refine zF0 ?_ | refine zX0 ?_ | refine z1 ?_ | refine z2 ?_ | refine z3 ?_ | refine z4 ?_ | refine z5 ?_ | refine z6 ?_ | refine z7 ?_ | refine z8 ?_ | refine y1 ?_ | refine y2 ?_ | refine y3 ?_ | refine y4 ?_ | refine y5 ?_ | refine y6 ?_ | refine y7 ?_ | refine y8 ?_ | refine Rt.p (fun _ => ?_) fun _ => ?_)
      | ((with_reducible apply w_ixM); (focus exact rfl); (focus exact rfl); case' hk => intro y hy) | ((with_reducible (first | apply w_val | apply q_ends)); (focus exact rfl)))
    exact q_loop (d + 1, S2) ⟨by show g.lo ≤ d + 1; omega, .inr (by show d + 1 ≤ g.hi + 1; omega), hT⟩ (by show (g.hi + 1 - (d + 1)).toNat < (g.hi + 1 - d).toNat; omega) (slots_cons rfl slots_nil) ⟨(t_low (by decide)).trans rfl, (t_low (by decide)).trans rfl, t_own⟩ (by repeat' (first | exact kept_nil | apply kept_cons | rfl)) (by repeat' (first | exact kept_nil | apply kept_cons | rfl))
  · rw [List.filter_cons_of_neg (by simpa using hwd)] at hT
    repeat' (first
      | with_reducible (first | refine Rd.p ?_ | refine w_alt ?_ ?_ | refine zE ?_ | refine zE0 ?_)
      | (first | refine w_ixE hgw rfl (by show AV.int .i64 _ = AV.int .i64 _; refine int_eq ?_; omega) ?_)
      | with_reducible (first | refine zI fun y hy => ?_ | refine zL ?_ | refine zS ?_ | refine zA fun _ => ?_ | refine zV ?_ | refine zC ?_ | refine zG ?_ | refine zU ?_ | refine zG0 ?_ | refine zU0 ?_ | refine zF ?_)
      | with_reducible (first | refine zX ?_ | refine zD fun _ => ?_ | refine zD0 ?_ | refine zN ?_ | refine zF0 ?_ | refine zX0 ?_ | refine z1 ?_ | refine z2 ?_ | refine z3 ?_ | refine z4 ?_ | refine z5 ?_ | refine z6 ?_ | refine z7 ?_ | refine z8 ?_ | refine y1 ?_ | refine y2 ?_ | refine y3 ?_ | refine y4 ?_ | refine y5 ?_ | refine y6 ?_ | refine y7 ?_ | refine y8 ?_ | refine Rt.p (fun _ => ?_) fun _ => ?_)
      | ((with_reducible apply w_ixM); (focus exact rfl); (focus exact rfl); case' hk => intro y hy) | ((with_reducible (first | apply w_val | apply q_ends)); (focus exact rfl)))
    exact q_loop (d + 1, S1) ⟨by show g.lo ≤ d + 1; omega, .inr (by show d + 1 ≤ g.hi + 1; omega), hT⟩ (by show (g.hi + 1 - (d + 1)).toNat < (g.hi + 1 - d).toNat; omega) (slots_cons rfl slots_nil) ⟨rfl, rfl, t_upd (by decide) (t_upd (by decide) t_own)⟩ (by repeat' (first | exact kept_nil | apply kept_cons | rfl)) (by repeat' (first | exact kept_nil | apply kept_cons | rfl))
end Go.Abs
