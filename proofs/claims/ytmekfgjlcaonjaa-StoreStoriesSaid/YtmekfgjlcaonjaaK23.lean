/- A part of the proofs of the laws of this seat: contracts of the functions that they reach, each proved of the program's form in Lean. No condition beyond those that each contract names. -/
import Derived.Test.YtmekfgjlcaonjaaK22
import Derived.Test.YtmekfgjlcaonjaaK21
import Derived.Test.YtmekfgjlcaonjaaK58
import Derived.Test.YtmekfgjlcaonjaaB
set_option linter.unusedVariables false
set_option linter.unusedSimpArgs false
set_option maxRecDepth 20000
set_option maxHeartbeats 1000000
namespace Go.Abs
open Go.Proofs
theorem sg_updL : ∀ l : List (Nat × (Nat × Res)), sg l = updL l (sg [])
  | [] => rfl
  | (a, x) :: r => by
    funext i
    rw [updL, upd_eq, ← sg_updL r]
    show (match Nat.beq a i with | true => x | false => sg r i) = _
    by_cases h : i = a
    · rw [if_pos h, nbeq.2 h.symm]
    · rw [if_neg h, nbeq_f.2 (Ne.symm h)]
theorem apart4 {Y : Nat × Res} : apart 1000 1001 1002 [(4, Y)] := fun x hx => by simp at hx; subst hx; exact ⟨(by decide : 4 < 5000), (by decide : 4 ≠ 1000), (by decide : 4 ≠ 1001), (by decide : 4 ≠ 1002)⟩
section
variable {P : Program} {K : (Nat → AV) → Sig → Prop} {e : Nat → AV} {σ : Sig} {x v : IOpd} {r : List IStep} {G : TPl} {S : Told} {Y : Nat × Res}
theorem w_stP {a b : Int} (hx : x.ev e = .ref 1000 G.gp 0) (hv : v.ev e = .agg [.int .i64 a, .int .i64 b])
    (hk : stepsW P r K e (updL ((4, Y) :: tRows 1000 1001 1002 G { S with lo := a, hi := b }) σ)) : stepsW P (⟨none, none, .st 2 x v⟩ :: r) K e (updL ((4, Y) :: tRows 1000 1001 1002 G S) σ) := by
  refine w_det0 (p := G.gp = G.gp ∧ ([AV.int .i64 a, .int .i64 b].length = 2 ∧ [AV.int .i64 a, .int .i64 b].all AV.scal = true) ∧ 0 + 2 ≤ 4) (v := .junk) (σ' := upd (updL ([(4, Y)] ++ tRows 1000 1001 1002 G S) σ) 1000 (G.gp, .row [.int .i64 a, .int .i64 b, lcell 1001 G, .msl 1002 G.gr 30 1])) (fun _ => ?_) ⟨rfl, ⟨rfl, rfl⟩, by decide⟩ ?_
  · show stO 2 (updL ([(4, Y)] ++ tRows 1000 1001 1002 G S) σ) (v.ev e) (x.ev e) = _
    rw [hx, hv]
    simp only [stO, cellsO, t_p apart4, boxT]
    rfl
  · rw [t_setP apart4 (by decide) (by decide) (by decide) (by decide) (by decide) (by decide)]; exact hk
theorem w_ldQ {d y : Nat} (hx : x.ev e = .ref 1001 G.gq y) (hy : y < G.nL * 2)
    (hk : stepsW P r K (upd e d (.int .i64 (S.F y))) (updL ((4, Y) :: tRows 1000 1001 1002 G S) σ)) : stepsW P (⟨some d, none, .ld 1 false x⟩ :: r) K e (updL ((4, Y) :: tRows 1000 1001 1002 G S) σ) :=
  w_ldAt hx (t_q (X := [(4, Y)]) apart4 (by decide)) (rowZ_get _ hy) rfl hk
theorem w_stQ {y : Nat} {m : Int} (hx : x.ev e = .ref 1001 G.gq y) (hv : v.ev e = .int .i64 m) (hy : y < G.nL * 2)
    (hk : stepsW P r K e (updL ((4, Y) :: tRows 1000 1001 1002 G { S with F := setF S.F y m }) σ)) : stepsW P (⟨none, none, .st 1 x v⟩ :: r) K e (updL ((4, Y) :: tRows 1000 1001 1002 G S) σ) := by
  refine w_det0 (p := G.gq = G.gq ∧ 1 = 1 ∧ y + 1 ≤ (rowZ (G.nL * 2) S.F).length) (v := .junk) (σ' := upd (updL ([(4, Y)] ++ tRows 1000 1001 1002 G S) σ) 1001 (G.gq, .row (setL (rowZ (G.nL * 2) S.F) y [.int .i64 m]))) (fun _ => ?_) ⟨rfl, rfl, by rw [rowZ_len]; omega⟩ ?_
  · show stO 1 (updL ([(4, Y)] ++ tRows 1000 1001 1002 G S) σ) (v.ev e) (x.ev e) = _
    rw [hx, hv]
    simp only [stO, cellsO, t_q apart4 (show 1001 ≠ 1000 by decide), lnkT]
  · rw [setL_one, t_setQ apart4 (by decide) (by decide) (by decide) (by decide) (by decide) (by decide)]; exact hk
theorem w_ldC4 {d k : Nat} (hx : x.ev e = .ref 1002 G.gr k) (hy : k < 30)
    (hk : stepsW P r K (upd e d (.msl (5000 + k) (G.hs k) 21 1)) (updL ((4, Y) :: tRows 1000 1001 1002 G S) σ)) : stepsW P (⟨some d, none, .ld 1 false x⟩ :: r) K e (updL ((4, Y) :: tRows 1000 1001 1002 G S) σ) :=
  w_ldAt hx (t_r (X := [(4, Y)]) apart4 (by decide) (by decide)) (cellsR_get _ hy) rfl hk
theorem w_chkC {t k : Nat} (hx : x.ev e = .ref 1002 G.gr k) (hy : k < 30) (ht : e t = .msl (5000 + k) (G.hs k) 21 1)
    (hk : stepsW P r K e (updL ((4, Y) :: tRows 1000 1001 1002 G S) σ)) : stepsW P (⟨none, none, .chk 1 false x t⟩ :: r) K e (updL ((4, Y) :: tRows 1000 1001 1002 G S) σ) := by
  refine w_det0 (p := (G.gr = G.gr ∧ True) ∧ AV.msl (5000 + k) (G.hs k) 21 1 = e t) (v := .junk) (σ' := updL ((4, Y) :: tRows 1000 1001 1002 G S) σ) (fun _ => ?_) ⟨⟨rfl, trivial⟩, ht.symm⟩ hk
  have h1 : updL ((4, Y) :: tRows 1000 1001 1002 G S) σ 1002 = celT G := t_r (X := [(4, Y)]) apart4 (by decide) (by decide)
  show (match ldO 1 false (updL ((4, Y) :: tRows 1000 1001 1002 G S) σ) (x.ev e) with
    | some (p, v) => some (p ∧ v = e t, AV.junk, updL ((4, Y) :: tRows 1000 1001 1002 G S) σ)
    | none => none) = _
  rw [hx]
  simp only [ldO, h1, celT, partO, cellsR_get _ hy, liftV, forceA, okV]
theorem w_stD {k y : Nat} (hx : x.ev e = .ref (5000 + k) (G.hs k) y) (hv : v.ev e = .bool true) (hk0 : k < 30) (hy : y < 21)
    (hk : stepsW P r K e (updL ((4, Y) :: tRows 1000 1001 1002 G { S with f := setB S.f k y }) σ)) : stepsW P (⟨none, none, .st 1 x v⟩ :: r) K e (updL ((4, Y) :: tRows 1000 1001 1002 G S) σ) := by
  refine w_det0 (p := G.hs k = G.hs k ∧ 1 = 1 ∧ y + 1 ≤ (rowO 21 (S.f k)).length) (v := .junk) (σ' := upd (updL ([(4, Y)] ++ tRows 1000 1001 1002 G S) σ) (5000 + k) (G.hs k, .row (setL (rowO 21 (S.f k)) y [.bool true]))) (fun _ => ?_) ⟨rfl, rfl, by rw [rowO_len]; omega⟩ ?_
  · show stO 1 (updL ([(4, Y)] ++ tRows 1000 1001 1002 G S) σ) (v.ev e) (x.ev e) = _
    rw [hx, hv]
    simp only [stO, cellsO, t_d apart4 (show 1000 < 5000 by decide) (show 1001 < 5000 by decide) (show 1002 < 5000 by decide) hk0]
  · rw [setL_one, t_setD apart4 (by decide) (by decide) (by decide) (by decide) (by decide) (by decide) hk0]; exact hk
end
theorem t_slots4 {G : TPl} {S : Told} {Y : Nat × Res} {σ : Sig} : slots ((4, Y) :: tRows 1000 1001 1002 G S) (updL ((4, Y) :: tRows 1000 1001 1002 G S) σ) := by
  refine ⟨rfl, ?_⟩
  have h := t_slots (p := 1000) (q := 1001) (r := 1002) (G := G) (S := S) (σ := σ) (by decide) (by decide) (by decide) (by decide) (by decide) (by decide)
  rw [slots_iff] at h ⊢
  intro x hx
  rw [← h x hx]
  show upd _ 4 Y x.1 = _
  rw [upd_eq, if_neg]
  rintro e
  rcases List.mem_cons.1 hx with rfl | hx
  · cases e
  rcases List.mem_cons.1 hx with rfl | hx
  · cases e
  rcases List.mem_cons.1 hx with rfl | hx
  · cases e
  obtain ⟨j, _, rfl⟩ := List.mem_map.1 hx
  dsimp only at e
  omega
end Go.Abs
