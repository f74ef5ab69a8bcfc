/- A part of the proofs of the laws of this seat: contracts of the functions that they reach, each proved of the program's form in Lean. No condition beyond those that each contract names. -/
import Derived.Test.YtmekfgjlcaonjaaB9
import Derived.Test.YtmekfgjlcaonjaaB0
import Derived.Test.YtmekfgjlcaonjaaB10
import Derived.Test.YtmekfgjlcaonjaaB4
import Derived.Test.YtmekfgjlcaonjaaB8
set_option linter.unusedVariables false
set_option linter.unusedSimpArgs false
set_option maxRecDepth 20000
set_option maxHeartbeats 4000000
/-! ### All orders -/
namespace Go.Abs
open Go.Proofs
section
variable {P : Program}
theorem ACall.liftYS {f : Nat} {args0 args : List AV} {l0 : List (Nat × (Nat × Res))} {σ : Sig} {α : Type} {V : α → AV → Prop} {L : α → List (Nat × (Nat × Res))} {d : Nat} {Q : AV → Sig → Prop} (h : RawC P f args0 (sg l0) (SR V L)) (ρi : List (Nat × Nat)) (s : Option Nat) (hr : renOK (outs d s ++ ρi) = true)
    {l : Nat} {xs : Option (List (List AV))} (hy : σ YS = (0, .yld l xs)) (ha : args0 = renL (flipL ρi) args) (h0 : l0 = pull (flipL ρi) σ ρi ++ [(YS, (0, .yld l xs))]) (hl : liveL σ ρi) (hc : ∀ x, covers (L x) (outs d s ++ ρi) = true)
    (Y' : α → Nat × Res) (hcy : ∀ x, lkS YS (L x) = some (Y' x)) (hQ : ∀ x av, V x av → Q (ren (outs d s ++ ρi) av) (pushV (outs d s ++ ρi) (L x) (outs d s ++ ρi) (upd σ YS (Y' x)))) : ACall P f args σ d Q :=
  ACall.liftY h ρi s hr hy ha h0 hl fun av σ0' ⟨x, hV, hs⟩ => by rw [lkS_slots hs (hcy x), push_slots hs (hc x)]; exact hQ x av hV
theorem w_slF {K : (Nat → AV) → Sig → Prop} {e : Nat → AV} {σ : Sig} {α : Type} {f : α → List AV} {l : List α} {d sz : Nat} {t : Tag} {x h m : IOpd} {r : List IStep} (hx : x.ev e = .slc sz (l.map f) t)
    (hh : h.ev e = .int .i64 l.length) (hm : m.ev e = .int .i64 l.length) (hk : stepsW P r K (upd e d (.slc sz (l.map f) .full)) σ) : stepsW P (⟨some d, none, .slS sz x none (some h) (some m)⟩ :: r) K e σ := by
  refine w_val (v := .slc sz (((l.map f).drop (0 : Int).toNat).take ((l.length : Int) - 0).toNat) .full) (p := sz = sz ∧ 0 ≤ (0 : Int) ∧ (0 : Int) ≤ l.length ∧ (l.length : Int) ≤ (l.map f).length ∧ (l.length : Int) = l.length) ?_ ⟨rfl, by omega, by omega, by simp, rfl⟩ ?_
  · show slSO sz e (x.ev e) none (some h) (some m) = _
    rw [hx]
    simp only [slSO, boundO, hh, hm]
  · have : ((l.map f).drop (0 : Int).toNat).take ((l.length : Int) - 0).toNat = l.map f := by
      rw [show ((l.length : Int) - 0).toNat = (l.map f).length by simp]; simp only [Int.toNat_zero, List.drop_zero, List.take_length]
    rw [this]; exact hk
end
/-- The guests from s on that do not sit yet. -/
def candF (now : List Int) : Nat → Nat → List Int
  | 0, _ => []
  | m + 1, s => if 0 ≤ idxI now s then candF now m (s + 1) else (s : Int) :: candF now m (s + 1)
/-- All orders of n guests that begin so, k being missing. -/
def permsK (n : Nat) : Nat → List Int → List (List Int)
  | 0, now => [now]
  | k + 1, now => (candF now n 0).flatMap fun g => permsK n k (now ++ [g])
theorem candF_mem {now : List Int} : ∀ {m s : Nat} {x : Int}, x ∈ candF now m s → (s : Int) ≤ x ∧ x < s + m ∧ idxI now x < 0
  | m + 1, s, x, h => by
    simp only [candF] at h
    split at h
    · have := candF_mem h; omega
    · rename_i hs
      rcases List.mem_cons.1 h with rfl | h
      · exact ⟨by omega, by omega, by omega⟩
      · have := candF_mem h; omega
theorem permsK_mem {n : Nat} : ∀ {k : Nat} {now m : List Int}, m ∈ permsK n k now → m.length = now.length + k ∧ ((∀ i ∈ now, 0 ≤ i ∧ i < n) → ∀ i ∈ m, 0 ≤ i ∧ i < n)
  | 0, b, m, h => by simp [permsK] at h; subst h; exact ⟨rfl, id⟩
  | k + 1, b, m, h => by
    simp only [permsK, List.mem_flatMap] at h
    obtain ⟨i, hi, h⟩ := h
    obtain ⟨h1, h2⟩ := permsK_mem h
    simp at h1
    refine ⟨by omega, fun hb => h2 fun x hx => ?_⟩
    rcases List.mem_append.1 hx with hx | hx
    · exact hb x hx
    · simp at hx; subst hx
      have := candF_mem hi
      omega
abbrev encL (p : List Int) : List AV := [.slc 1 (iR p) .non]
/-- The rules that an order breaks; those that must be kept; the orders that are allowed. -/
def brk (gs : List Guest) (rs : List Rule) (l : List Int) : Nat := bitsF (fun r => !keepsB gs (atL l) r) 0 rs
def mustN (rs : List Rule) : Nat := bitsF (fun r => decide (r.weight = 0)) 0 rs
def allowF (gs : List Guest) (rs : List Rule) : List (List Int) → List (List Int × Nat)
  | [] => []
  | l :: ls => if brk gs rs l &&& mustN rs = 0 then (l, brk gs rs l) :: allowF gs rs ls else allowF gs rs ls
abbrev perms (n : Nat) : List (List Int) := permsK n n []
abbrev enc2 (x : List Int × Nat) : List AV := [.slc 1 (iR x.1) .non, .int .i64 x.2]
theorem atF_bd {b : Int} : ∀ (l : List Int) (xs : List Int) (s : Nat), (∀ v ∈ xs, 0 ≤ v ∧ v < b) → (s + l.length : Int) ≤ b → ∀ v ∈ atF xs s l, 0 ≤ v ∧ v < b
  | [], xs, s, h, _, v, hv => h v hv
  | g :: r, xs, s, h, hs, v, hv => by
    simp only [List.length_cons] at hs
    refine atF_bd r (xs.set g.toNat s) (s + 1) (fun v hv => ?_) (by omega) v hv
    rcases List.mem_or_eq_of_mem_set hv with hv | rfl
    · exact h v hv
    · omega
theorem atL_bd (l : List Int) (h : l.length < 1000) : ∀ v ∈ atL l, 0 ≤ v ∧ v < 1000 :=
  atF_bd l _ 0 (fun v hv => by rw [(List.mem_replicate.1 hv).2]; omega) (by omega)
theorem atL_len (l : List Int) : (atL l).length = l.length := by rw [atF_len]; simp
theorem brk_lt (gs : List Guest) (rs : List Rule) (l : List Int) : brk gs rs l < 2 ^ rs.length := bitsF_lt _ 0 rs rs.length (by omega)
theorem mustN_lt (rs : List Rule) : mustN rs < 2 ^ rs.length := bitsF_lt _ 0 rs rs.length (by omega)
theorem pow62 {n : Nat} (h : n ≤ 12) : 2 ^ n < 2 ^ 62 := Nat.pow_lt_pow_right (by omega) (by omega)
end Go.Abs
