/- A part of the proofs of the laws of this seat: contracts of the functions that they reach, each proved of the program's form in Lean. No condition beyond those that each contract names. -/
import Derived.Test.YtmekfgjlcaonjaaProg
import Derived.Test.YtmekfgjlcaonjaaSnd3
set_option linter.unusedVariables false
set_option linter.unusedSimpArgs false
set_option maxRecDepth 20000
set_option maxHeartbeats 4000000
/-! ### Lists of data as rows; bits; the box -/
namespace Go.Abs
open Go.Proofs
variable {P : Program}
abbrev iR (xs : List Int) : List (List AV) := xs.map fun n => [.int .i64 n]
theorem w_ixM {K : (Nat → AV) → Sig → Prop} {e : Nat → AV} {σ : Sig} {α : Type} {f : α → List AV} {l : List α} {d sz : Nat} {t : Tag} {x i : IOpd} {r : List IStep} {k : IntKind} {n : Int} (hx : x.ev e = .slc sz (l.map f) t) (hi : i.ev e = .int k n) (h : 0 ≤ n ∧ n < l.length)
    (hk : ∀ y, l[n.toNat]? = some y → stepsW P r K (upd e d (.pin (f y))) σ) : stepsW P (⟨some d, none, .ixA sz x i⟩ :: r) K e σ := by
  refine w_val (v := .pin ((l.map f).getD n.toNat [])) (p := sz = sz ∧ 0 ≤ n ∧ n < (l.map f).length) (by show ixAO sz (x.ev e) (i.ev e) = _; rw [hx, hi]; rfl) ⟨rfl, h.1, by simpa using h.2⟩ ?_
  have hlt : n.toNat < l.length := by omega
  have : (l.map f).getD n.toNat [] = f l[n.toNat] := by
    rw [List.getD_eq_getElem?_getD, List.getElem?_map, List.getElem?_eq_getElem hlt]; rfl
  rw [this]; exact hk _ (List.getElem?_eq_getElem hlt)
/-- The element behind what has been seen. -/
theorem w_ixP {K : (Nat → AV) → Sig → Prop} {e : Nat → AV} {σ : Sig} {α : Type} {f : α → List AV} {l : List α} {pre post : List α} {y : α} {d sz : Nat} {t : Tag} {x i : IOpd} {r : List IStep} (hl : l = pre ++ y :: post) (hx : x.ev e = .slc sz (l.map f) t) (hi : i.ev e = .int .i64 pre.length)
    (hk : stepsW P r K (upd e d (.pin (f y))) σ) : stepsW P (⟨some d, none, .ixA sz x i⟩ :: r) K e σ := by
  subst hl
  refine w_val (v := .pin (((pre ++ y :: post).map f).getD ((pre.length : Int)).toNat [])) (p := sz = sz ∧ 0 ≤ (pre.length : Int) ∧ (pre.length : Int) < ((pre ++ y :: post).map f).length) (by show ixAO sz (x.ev e) (i.ev e) = _; rw [hx, hi]; rfl) ⟨rfl, by omega, by simp; omega⟩ ?_
  have : ((pre ++ y :: post).map f).getD ((pre.length : Int)).toNat [] = f y := by
    rw [List.getD_eq_getElem?_getD, Int.toNat_natCast, List.getElem?_map]
    simp
  rw [this]; exact hk

theorem ofInt_nat (n : Nat) : BitVec.ofInt 64 (n : Int) = BitVec.ofNat 64 n := by simp
theorem and_nat (a b : Nat) (ha : a < 2 ^ 62) (hb : b < 2 ^ 62) : bitV .and .i64 (a : Int) (b : Int) = ((a &&& b : Nat) : Int) := by
  have e : bitV .and .i64 (a : Int) (b : Int) = IntKind.i64.wrap (((BitVec.ofInt 64 (a : Int) &&& BitVec.ofInt 64 (b : Int)).toNat : Nat) : Int) := rfl
  have hle : a &&& b ≤ a := Nat.and_le_left
  rw [e, ofInt_nat, ofInt_nat, BitVec.toNat_and, BitVec.toNat_ofNat, BitVec.toNat_ofNat, Nat.mod_eq_of_lt (by omega), Nat.mod_eq_of_lt (by omega)]
  exact IntWalk.i64_in _ (by omega)
theorem or_nat (a b : Nat) (ha : a < 2 ^ 62) (hb : b < 2 ^ 62) : bitV .or .i64 (a : Int) (b : Int) = ((a ||| b : Nat) : Int) := by
  have e : bitV .or .i64 (a : Int) (b : Int) = IntKind.i64.wrap (((BitVec.ofInt 64 (a : Int) ||| BitVec.ofInt 64 (b : Int)).toNat : Nat) : Int) := rfl
  have hle : a ||| b < 2 ^ 62 := Nat.or_lt_two_pow ha hb
  rw [e, ofInt_nat, ofInt_nat, BitVec.toNat_or, BitVec.toNat_ofNat, BitVec.toNat_ofNat, Nat.mod_eq_of_lt (by omega), Nat.mod_eq_of_lt (by omega)]
  exact IntWalk.i64_in _ (by omega)
theorem and_bd {a b n : Int} (ha : 0 ≤ a) (hb : 0 ≤ b) (h : a < n) (hn : n < 2 ^ 62) (h2 : b < 2 ^ 62) : 0 ≤ bitV .and .i64 a b ∧ bitV .and .i64 a b < n := by
  obtain ⟨x, rfl⟩ := Int.eq_ofNat_of_zero_le ha
  obtain ⟨y, rfl⟩ := Int.eq_ofNat_of_zero_le hb
  have hx : x < 2 ^ 62 := by omega
  rw [and_nat x y hx (by omega)]
  have : x &&& y ≤ x := Nat.and_le_left
  omega
theorem fdiv_pow (n k : Nat) (hk : k < 64) : (n : Int).fdiv (2 ^ min ((k : Int)).toNat IntKind.i64.bits) = ((n >>> k : Nat) : Int) := by
  have : min ((k : Int)).toNat IntKind.i64.bits = k := by simp [IntKind.bits]; omega
  rw [this, Nat.shiftRight_eq_div_pow, Int.fdiv_eq_ediv_of_nonneg _ (by exact Int.le_of_lt (Int.pow_pos (by omega)))]
  simp

/-! The box of numbers: a word that is not known. -/
def boxW (w : Int) : Res := .row [.int .u64 w]
def BoxS (g : Nat) (w : Int) : Sig := sg [(1000, (g, .row [.int .u64 w]))]
def BoxR (g : Nat) (V : AV → Prop) : AV → Sig → Prop := fun av σ' => ∃ w', V av ∧ σ' 1000 = (g, .row [.int .u64 w'])
/-- A call of a method of the box. -/
theorem ACall.box {f : Nat} {args0 args : List AV} {V : AV → Prop} {σ : Sig} {d j g : Nat} {w : Int} {Q : AV → Sig → Prop} (h : RawC P f (.ref 1000 g 0 :: args0) (BoxS g w) (BoxR g V)) (hr : renOK [(1000, j)] = true) (hσ : σ j = (g, .row [.int .u64 w]))
    (ha : args0 = renL [(j, 1000)] args) (hQ : ∀ av w', V av → Q (ren [(1000, j)] av) (upd σ j (g, .row [.int .u64 w']))) : ACall P f (.ref j g 0 :: args) σ d Q := by
  subst ha
  refine ACall.lift (l0 := [(1000, (g, .row [.int .u64 w]))]) h [(1000, j)] none hr ?_ ?_ ⟨⟨_, by rw [hσ]⟩, trivial⟩ ?_
  · show _ = ren _ _ :: _
    have : lk (flipL [(1000, j)]) j = some 1000 := by simp [flipL, lk]
    simp only [ren, this]; rfl
  · simp only [pull, hσ, renR]; rfl
  · rintro av σ0' ⟨w', hV, hs⟩
    have := hQ av w' hV
    have e := push_one (ρ := outs d none ++ [(1000, j)]) (σ := σ) (b := j) (r := []) hs
    rw [show (outs d none ++ [(1000, j)]) = [(1000, j)] from rfl] at e ⊢
    rw [e]; exact this
end Go.Abs
namespace Go.Abs
theorem wrap_u64 (n : Int) : 0 ≤ IntKind.u64.wrap n ∧ IntKind.u64.wrap n < 18446744073709551616 := by
  simp [IntKind.wrap, IntKind.bits, IntKind.signed]; omega
theorem wrap_u64_id (n : Int) (h : 0 ≤ n) (h2 : n < 18446744073709551616) : IntKind.u64.wrap n = n := by
  simp [IntKind.wrap, IntKind.bits, IntKind.signed]; omega
end Go.Abs
namespace Go.Abs
variable {P : Program}
theorem w_lenM {K : (Nat → AV) → Sig → Prop} {e : Nat → AV} {σ : Sig} {α : Type} {f : α → List AV} {l : List α} {d sz : Nat} {t : Tag} {x : IOpd} {r : List IStep} (hx : x.ev e = .slc sz (l.map f) t)
    (hk : stepsW P r K (upd e d (.int .i64 l.length)) σ) : stepsW P (⟨some d, none, .len false x⟩ :: r) K e σ := by
  refine w_val (v := .int .i64 (l.map f).length) (p := True) (by show lenO false (x.ev e) = _; rw [hx]; rfl) trivial ?_
  rw [List.length_map]; exact hk
theorem w_slM {K : (Nat → AV) → Sig → Prop} {e : Nat → AV} {σ : Sig} {α : Type} {f : α → List AV} {l : List α} {d sz : Nat} {t : Tag} {x : IOpd} {lo hi : Option IOpd} {a b : Int} {r : List IStep} (hx : x.ev e = .slc sz (l.map f) t)
    (ha : boundO e 0 lo = some a) (hb : boundO e l.length hi = some b) (h : 0 ≤ a ∧ a ≤ b ∧ b ≤ l.length)
    (hk : stepsW P r K (upd e d (.slc sz (((l.drop a.toNat).take (b - a).toNat).map f) .non)) σ) : stepsW P (⟨some d, none, .slS sz x lo hi none⟩ :: r) K e σ := by
  refine w_val (v := .slc sz (((l.map f).drop a.toNat).take (b - a).toNat) .non) (p := sz = sz ∧ 0 ≤ a ∧ a ≤ b ∧ b ≤ (l.map f).length) ?_ ⟨rfl, h.1, h.2.1, by simpa using h.2.2⟩ ?_
  · show slSO sz e (x.ev e) lo hi none = _
    rw [hx]
    simp only [slSO, ha, List.length_map, hb]
  · rw [← List.map_drop, ← List.map_take]; exact hk
theorem b_dt {A B p : Prop} [Decidable p] (hp : p) (h : A) : brW (decide p) A B := by rw [decide_eq_true hp]; exact h
theorem b_df {A B p : Prop} [Decidable p] (hp : ¬ p) (h : B) : brW (decide p) A B := by rw [decide_eq_false hp]; exact h
theorem b_nt {A B p : Prop} [Decidable p] (hp : p) (h : B) : brW (!decide p) A B := by rw [decide_eq_true hp]; exact h
theorem b_nf {A B p : Prop} [Decidable p] (hp : ¬ p) (h : A) : brW (!decide p) A B := by rw [decide_eq_false hp]; exact h
/-- A contract's post: ghost values, the value, the sites. -/
def SR {α : Type} (V : α → AV → Prop) (L : α → List (Nat × (Nat × Res))) : AV → Sig → Prop := fun av σ' => ∃ x, V x av ∧ slots (L x) σ'
def lkS (a : Nat) : List (Nat × (Nat × Res)) → Option (Nat × Res)
  | [] => none
  | (b, x) :: r => match Nat.beq b a with
    | true => some x
    | false => lkS a r
def pushV (ρ : List (Nat × Nat)) (L : List (Nat × (Nat × Res))) : List (Nat × Nat) → Sig → Sig
  | [], σ => σ
  | (a, b) :: r, σ => match lkS a L with
    | some x => upd (pushV ρ L r σ) b (x.1, renR ρ x.2)
    | none => pushV ρ L r σ
def covers (L : List (Nat × (Nat × Res))) : List (Nat × Nat) → Bool
  | [] => true
  | (a, _) :: r => match lkS a L with
    | some _ => covers L r
    | none => false
theorem lkS_slots {σ0 : Sig} {a : Nat} {x : Nat × Res} : ∀ {L : List (Nat × (Nat × Res))}, slots L σ0 → lkS a L = some x → σ0 a = x
  | (b, y) :: r, ⟨h1, h2⟩, h => by
    simp only [lkS] at h
    split at h
    · rename_i hb; cases h; rw [← nbeq.1 hb]; exact h1
    · exact lkS_slots h2 h
theorem push_slots {ρ : List (Nat × Nat)} {σ0 σ : Sig} {L : List (Nat × (Nat × Res))} (h : slots L σ0) : ∀ {l : List (Nat × Nat)}, covers L l = true → push ρ σ0 l σ = pushV ρ L l σ
  | [], _ => rfl
  | (a, b) :: r, hc => by
    simp only [covers] at hc
    split at hc
    · rename_i x hx
      simp only [push, pushV, hx]
      rw [push_slots h hc, lkS_slots h hx]
    · cases hc
theorem ACall.liftS {f : Nat} {args0 args : List AV} {l0 : List (Nat × (Nat × Res))} {σ : Sig} {α : Type} {V : α → AV → Prop} {L : α → List (Nat × (Nat × Res))} {d : Nat} {Q : AV → Sig → Prop} (h : RawC P f args0 (sg l0) (SR V L)) (ρi : List (Nat × Nat)) (s : Option Nat) (hr : renOK (outs d s ++ ρi) = true)
    (ha : args0 = renL (flipL ρi) args) (h0 : l0 = pull (flipL ρi) σ ρi) (hl : liveL σ ρi) (hc : ∀ x, covers (L x) (outs d s ++ ρi) = true) (hQ : ∀ x av, V x av → Q (ren (outs d s ++ ρi) av) (pushV (outs d s ++ ρi) (L x) (outs d s ++ ρi) σ)) : ACall P f args σ d Q :=
  ACall.lift h ρi s hr ha h0 hl fun av σ0' ⟨x, hV, hs⟩ => by rw [push_slots hs (hc x)]; exact hQ x av hV
theorem map_snoc {α : Type} {f : α → List AV} {l : List α} {x : α} : (l ++ [x]).map f = l.map f ++ [f x] := by simp
end Go.Abs
namespace Go.Abs
theorem len_snoc {α : Type} {l : List α} {x : α} : (l ++ [x]).length = l.length + 1 := by simp
structure Guest where
  name : ByteArray
  rank : Int
  honour : Int
  never : Int
  maybe : Int
  deriving DecidableEq
structure Dish where
  turn : Int
  parts : Int
  cost : Int
  deriving DecidableEq
structure Rule where
  kind : Int
  a : Int
  b : Int
  weight : Int
  deriving DecidableEq
structure Bond where
  kind : Int
  a : Int
  b : Int
  deriving DecidableEq
abbrev Guest.row (g : Guest) : List AV := [.str g.name, .int .i64 g.rank, .int .i64 g.honour, .int .i64 g.never, .int .i64 g.maybe]
abbrev Dish.row (g : Dish) : List AV := [.int .i64 g.turn, .int .i64 g.parts, .int .i64 g.cost]
abbrev Rule.row (g : Rule) : List AV := [.int .i64 g.kind, .int .i64 g.a, .int .i64 g.b, .int .i64 g.weight]
abbrev Bond.row (g : Bond) : List AV := [.int .i64 g.kind, .int .i64 g.a, .int .i64 g.b]
abbrev gR (l : List Guest) : List (List AV) := l.map fun g => [.str g.name, .int .i64 g.rank, .int .i64 g.honour, .int .i64 g.never, .int .i64 g.maybe]
abbrev dR (l : List Dish) : List (List AV) := l.map fun g => [.int .i64 g.turn, .int .i64 g.parts, .int .i64 g.cost]
abbrev rR (l : List Rule) : List (List AV) := l.map fun g => [.int .i64 g.kind, .int .i64 g.a, .int .i64 g.b, .int .i64 g.weight]
abbrev bR (l : List Bond) : List (List AV) := l.map fun g => [.int .i64 g.kind, .int .i64 g.a, .int .i64 g.b]
def inB (n a b : Int) : Bool := decide (a ≤ n ∧ n ≤ b)
theorem inB_t {n a b : Int} : inB n a b = true ↔ a ≤ n ∧ n ≤ b := by simp [inB]
theorem inB_f {n a b : Int} : inB n a b = false ↔ n < a ∨ b < n := by simp [inB]; omega
def letB (c : UInt8) : Bool := decide (97 ≤ (c.toNat : Int) ∧ (c.toNat : Int) ≤ 122)
def namedB (s : ByteArray) : Bool := inB s.size 1 8 && s.data.toList.all letB
def gOK (g : Guest) : Bool := inB g.rank 0 9 && inB g.honour 0 1000 && inB g.never 0 255 && inB g.maybe 0 255
/-- The error of a guest; of guests, pre being seen. -/
def gErr (g : Guest) : Int := if namedB g.name = true then (if gOK g = true then 0 else 2) else 3
def gsErr : List Guest → List Guest → Int
  | _, [] => 0
  | pre, g :: post => if gErr g = 0 then (if pre.any (fun x => decide (x.name = g.name)) = true then 9 else gsErr (pre ++ [g]) post) else gErr g
def dErr (d : Dish) : Int := if (inB d.turn 0 3 && inB d.parts 0 255 && inB d.cost 0 1000) = true then 0 else 2
end Go.Abs
namespace Go.Abs
theorem slots_nil {β : Type} {e : Nat → β} : slots [] e := trivial
theorem slots_cons {β : Type} {e : Nat → β} {i : Nat} {v : β} {r : List (Nat × β)} (h : e i = v) (h2 : slots r e) : slots ((i, v) :: r) e := ⟨h, h2⟩
theorem kept_nil {β : Type} {e e' : Nat → β} : kept [] e e' := trivial
theorem kept_cons {β : Type} {e e' : Nat → β} {i : Nat} {r : List Nat} (h : e' i = e i) (h2 : kept r e e') : kept (i :: r) e e' := ⟨h, h2⟩
end Go.Abs
namespace Go.Abs
variable {P : Program}
/-- A call with less known of its arguments. -/
theorem ACall.weak {f : Nat} {args args' : List AV} {σ : Sig} {d : Nat} {Q : AV → Sig → Prop} (hw : ∀ G vals, RelL G args vals → RelL G args' vals) (h : ACall P f args' σ d Q) : ACall P f args σ d Q :=
  ⟨h.1, fun Y T G w vals a b c r => h.2 Y T G w vals a b c (hw G vals r)⟩
theorem RawC.weak {f : Nat} {args args' : List AV} {σ : Sig} {R : AV → Sig → Prop} (hw : ∀ G vals, RelL G args vals → RelL G args' vals) (h : RawC P f args' σ R) : RawC P f args σ R :=
  ⟨h.1, fun Y T G w vals a b c r => h.2 Y T G w vals a b c (hw G vals r)⟩
theorem Sub.nil {sz : Nat} {t : Tag} : Sub .nsl (.slc sz [] t) := fun G v h => .inl ⟨.inl h, rfl⟩
theorem Sub.refl (a : AV) : Sub a a := fun _ _ h => h
def SubL : List AV → List AV → Prop
  | [], [] => True
  | a :: r, b :: s => Sub a b ∧ SubL r s
  | _, _ => False
theorem SubL.rel {G : GS} : ∀ {l m : List AV} {vals : List Value}, SubL l m → RelL G l vals → RelL G m vals
  | [], [], _, _, h => h
  | a :: r, b :: s, _, ⟨h1, h2⟩, ⟨v, t, h3, h4, h5⟩ => ⟨v, t, h3, h1 G v h4, SubL.rel h2 h5⟩
abbrev llR (ls : List (List Int)) : List (List AV) := ls.map fun l => [.slc 1 (iR l) .non]
/-- A list that may be nil. -/
def NowV (a : AV) (l : List Int) : Prop := (a = .nsl ∧ l = []) ∨ (a = .slc 1 (iR l) .non ∧ l ≠ [])
end Go.Abs
namespace Go.Abs
variable {P : Program}
theorem w_appS {K : (Nat → AV) → Sig → Prop} {e : Nat → AV} {σ σ' : Sig} {d sz bytes i : Nat} {x y : IOpd} {r : List IStep} {p q : Prop} {es ys zs : List (List AV)} (hx : baseO sz σ (x.ev e) = some (p, es, σ')) (hy : rowsO sz (y.ev e) = some (q, ys))
    (hz : es ++ ys = zs) (hp : p ∧ q) (hb : zs.length * bytes ≤ 140737488355328) (hk : ∀ g, stepsW P r K (upd e d (.slc sz zs (.own i g))) (newS σ' i g [])) : stepsW P (⟨some d, none, .app sz bytes x y i⟩ :: r) K e σ := by
  refine w_det (p := p ∧ q ∧ (es.length + ys.length) * bytes ≤ 140737488355328) (v := fun g => .slc sz (es ++ ys) (.own i g)) (σ' := fun g => newS σ' i g []) (fun g => ?_) ⟨hp.1, hp.2, ?_⟩ fun g => ?_
  · show (match baseO sz σ (x.ev e), rowsO sz (y.ev e) with
      | some (p, es, σ'), some (q, ys) => some (p ∧ q ∧ (es.length + ys.length) * bytes ≤ 140737488355328, AV.slc sz (es ++ ys) (.own i g), newS σ' i g [])
      | _, _ => none) = _
    rw [hx, hy]
  · rw [← hz, List.length_append] at hb; exact hb
  · rw [hz]; exact hk g
theorem app_one {α : Type} {f : α → List AV} {l : List α} {z : α} {r : List AV} (h : f z = r) : l.map f ++ [r] = (l ++ [z]).map f := by rw [← h]; simp
theorem app_map {α : Type} {f : α → List AV} {l m : List α} : l.map f ++ m.map f = (l ++ m).map f := by simp
theorem app_nil {ys : List (List AV)} : [] ++ ys = ys := rfl
theorem gMk (a : ByteArray) (b c d e : Int) : [AV.str a, .int .i64 b, .int .i64 c, .int .i64 d, .int .i64 e] = (fun g : Guest => [AV.str g.name, .int .i64 g.rank, .int .i64 g.honour, .int .i64 g.never, .int .i64 g.maybe]) ⟨a, b, c, d, e⟩ := rfl
end Go.Abs
namespace Go.Abs
theorem int_eq {a b : Int} (h : a = b) : AV.int .i64 a = AV.int .i64 b := by rw [h]
end Go.Abs
namespace Go.Abs
theorem b_ht {A B : Prop} {c : Bool} (h : c = true) (hA : A) : brW c A B := by rw [h]; exact hA
theorem b_hf {A B : Prop} {c : Bool} (h : c = false) (hB : B) : brW c A B := by rw [h]; exact hB
theorem b_hnt {A B : Prop} {c : Bool} (h : c = true) (hB : B) : brW (!c) A B := by rw [h]; exact hB
theorem b_hnf {A B : Prop} {c : Bool} (h : c = false) (hA : A) : brW (!c) A B := by rw [h]; exact hA
theorem g_ht {A B : Bool → Prop} {c b : Bool} (h : c = true) (hk : grW true A B b) : grW c A B b := by rw [h]; exact hk
theorem g_hf {A B : Bool → Prop} {c b : Bool} (h : c = false) (hk : grW false A B b) : grW c A B b := by rw [h]; exact hk
theorem g_hnt {A B : Bool → Prop} {c b : Bool} (h : c = true) (hk : grW false A B b) : grW (!c) A B b := by rw [h]; exact hk
theorem g_hnf {A B : Bool → Prop} {c b : Bool} (h : c = false) (hk : grW true A B b) : grW (!c) A B b := by rw [h]; exact hk
theorem g_hd {A B : Bool → Prop} {p : Prop} [Decidable p] {b : Bool} (h : p) (hk : grW true A B b) : grW (decide p) A B b := by rw [decide_eq_true h]; exact hk
theorem g_hnd {A B : Bool → Prop} {p : Prop} [Decidable p] {b : Bool} (h : ¬ p) (hk : grW false A B b) : grW (decide p) A B b := by rw [decide_eq_false h]; exact hk
end Go.Abs
namespace Go.Abs
variable {P : Program}
theorem SubL.nil : SubL [] [] := trivial
theorem SubL.cons {a b : AV} {r s : List AV} (h : Sub a b) (hr : SubL r s) : SubL (a :: r) (b :: s) := ⟨h, hr⟩
/-- A call of a function of pure data, at arguments of which more is known than it asks. -/
theorem ACall.wval {f : Nat} {args0 args args' : List AV} {σ : Sig} {v v' : AV} {d : Nat} {Q : AV → Sig → Prop} (hw : SubL args args') (h : Fn0 P f args0 (fun a => a = v)) (ha : args0 = renL [] args') (hv : ren [] v = v') (hQ : Q v' σ) : ACall P f args σ d Q :=
  ACall.weak (fun _ _ hr => SubL.rel hw hr) (ACall.val h ha hv hQ)
end Go.Abs
namespace Go.Abs
theorem b_nb {A B : Prop} {c : Bool} (h1 : c = false → A) (h2 : c = true → B) : brW (!c) A B := by
  cases c
  · exact h1 rfl
  · exact h2 rfl
theorem g_nbt {A B : Bool → Prop} {c : Bool} (h1 : c = false → A true) (h2 : c = true → B false) : grW (!c) A B true := by
  cases c
  · exact h1 rfl
  · exact h2 rfl
theorem g_nbf {A B : Bool → Prop} {c : Bool} (h1 : c = false → B true) (h2 : c = true → A false) : grW (!c) A B false := by
  cases c
  · exact h1 rfl
  · exact h2 rfl
end Go.Abs
namespace Go.Abs
variable {P : Program}
theorem w_frzR {Q : Post} {e : Nat → AV} {σ : Sig} {t i g : Nat} {c : List AV} (hx : e t = .ref i g 0) (hσ : σ i = (g, .row c)) (hs : c.all AV.scal = true) (hk : Q .nor (upd (frzE i g c e) t (.pin (normL c))) (frzS i g c σ)) : awp P (.frz (.t t)) Q e σ := by
  have he : frzE i g c e t = .pin (normL c) := by simp [frzE, hx, frzA]
  rw [← upd_same he] at hk
  show frzW (e t) e σ _
  rw [hx]; show (match σ i with | (g', .row c) => g = g' ∧ c.all AV.scal = true ∧ Q .nor (frzE i g c e) (frzS i g c σ) | _ => False)
  rw [hσ]; exact ⟨rfl, hs, hk⟩
theorem chunk1 : ∀ (xs : List Int), chunk 1 xs.length (normL (xs.map (AV.int .i64))) = iR xs
  | [] => rfl
  | x :: xs => by
    have := chunk1 xs
    simp only [List.length_cons, List.map_cons, normL, chunk, List.map_cons]
    simp only [normL] at this
    rw [show List.drop 1 (AV.norm (AV.int .i64 x) :: List.map AV.norm (List.map (AV.int .i64) xs)) = List.map AV.norm (List.map (AV.int .i64) xs) from rfl, this]
    rfl
theorem w_frzI {Q : Post} {e : Nat → AV} {σ : Sig} {t i g n : Nat} {xs : List Int} (hx : e t = .msl i g n 1) (hσ : σ i = (g, .row (xs.map (AV.int .i64)))) (hn : xs.length = n) (hk : Q .nor (upd (frzE i g (xs.map (AV.int .i64)) e) t (.slc 1 (iR xs) .non)) (frzS i g (xs.map (AV.int .i64)) σ)) : awp P (.frz (.t t)) Q e σ := by
  subst hn
  have he : frzE i g (xs.map (AV.int .i64)) e t = .slc 1 (iR xs) .non := by simp [frzE, hx, frzA, chunk1]
  rw [← upd_same he] at hk
  show frzW (e t) e σ _
  rw [hx]; show (match σ i with | (g', .row c) => g = g' ∧ c.all AV.scal = true ∧ Q .nor (frzE i g c e) (frzS i g c σ) | _ => False)
  rw [hσ]; exact ⟨rfl, by simp [AV.scal], hk⟩
theorem setL_one {α : Type} (c : List α) (k : Nat) (x : α) : setL c k [x] = c.set k x := rfl
theorem w_stI {K : (Nat → AV) → Sig → Prop} {e : Nat → AV} {σ : Sig} {x v : IOpd} {r : List IStep} {i g off : Nat} {a : Int} {xs : List Int} (hx : x.ev e = .ref i g off) (hv : v.ev e = .int .i64 a) (hσ : σ i = (g, .row (xs.map (AV.int .i64)))) (ho : off < xs.length)
    (hk : stepsW P r K e (upd σ i (g, .row ((xs.set off a).map (AV.int .i64))))) : stepsW P (⟨none, none, .st 1 x v⟩ :: r) K e σ := by
  refine w_det0 (p := g = g ∧ 1 = 1 ∧ off + 1 ≤ (xs.map (AV.int .i64)).length) (v := .junk) (σ' := upd σ i (g, .row (setL (xs.map (AV.int .i64)) off [.int .i64 a]))) (fun _ => ?_) ⟨rfl, rfl, by simp; omega⟩ ?_
  · show stO 1 σ (v.ev e) (x.ev e) = _
    rw [hx, hv]
    simp only [stO, cellsO, hσ]
  · rw [setL_one, ← List.map_set]; exact hk
theorem w_mksI {K : (Nat → AV) → Sig → Prop} {e : Nat → AV} {σ : Sig} {d : Nat} {l : IOpd} {r : List IStep} {n : Nat} (hl : l.ev e = .int .i64 n) (hn : n ≤ 1000000)
    (hk : ∀ g, stepsW P r K (upd e d (.msl d g n 1)) (newS σ d g ((List.replicate n (0 : Int)).map (AV.int .i64)))) : stepsW P (⟨some d, none, .mks 1 8 [.int .i64 0] l l⟩ :: r) K e σ := by
  refine w_det (p := 0 ≤ (n : Int) ∧ (n : Int) = n ∧ (n : Int) * 8 ≤ 140737488355328 ∧ (n : Int) ≤ 9223372036854775807) (v := fun g => .msl d g n 1) (σ' := fun g => newS σ d g (List.replicate n [AV.int .i64 0]).flatten) (fun g => ?_) ⟨by omega, rfl, by omega, by omega⟩ fun g => ?_
  · show (match l.ev e, l.ev e with
      | .int _ n, .int _ c => some (0 ≤ n ∧ c = n ∧ n * (8 : Nat) ≤ 140737488355328 ∧ n ≤ 9223372036854775807, AV.msl d g n.toNat 1, newS σ d g (List.replicate n.toNat [AV.int .i64 0]).flatten)
      | _, _ => none) = _
    rw [hl]; rfl
  · have : ∀ n : Nat, (List.replicate n [AV.int .i64 0]).flatten = (List.replicate n (0 : Int)).map (AV.int .i64) := by
      intro n
      induction n with
      | zero => rfl
      | succ n ih => simp [List.replicate_succ, ih]
    rw [this]; exact hk g
/-- A call of the yield function. -/
theorem w_yield {K : (Nat → AV) → Sig → Prop} {e : Nat → AV} {σ : Sig} {d l : Nat} {x : IOpd} {args : List IOpd} {av y : List AV} {rest : List (List AV)} {r : List IStep} (hx : x.ev e = .clo (.yield l) [] []) (h : evO e args = some av)
    (hσ : σ YS = (0, .yld l (some (y :: rest)))) (hy : stripL av = y) (hk : ∀ b : Bool, stepsW P r K (upd e d (.bool b)) (upd σ YS (0, .yld l (yNext rest b)))) : stepsW P (⟨some d, none, .callV x args⟩ :: r) K e σ := by
  show argW (evO e args) _
  rw [h]; show callVW P (x.ev e) _ _ _ _
  rw [hx]
  show (match σ YS with | (0, .yld l' (some (x :: rest))) => l' = l ∧ stripL av = x ∧ ∀ b : Bool, contS e (some d) (stepsW P r K) (.bool b) (upd σ YS (0, .yld l (yNext rest b))) | _ => False)
  rw [hσ]; exact ⟨rfl, hy, hk⟩
def rndK {α β : Type} (kS : List Nat) (σ0 : Sig) (C : List β → α → Prop) (S : α → List (Nat × (Nat × Res))) (rest : List β) (Q : Post) (e0 : Nat → AV) : Post
  | .nor, _, σ => ∃ y, C rest y ∧ slots (S y) σ ∧ kept kS σ0 σ
  | x, _, σ => Q x e0 σ
theorem q_rnd {α β : Type} {kS : List Nat} {σ0 : Sig} {C : List β → α → Prop} {S : α → List (Nat × (Nat × Res))} {rest : List β} {Q : Post} {e0 e : Nat → AV} {σ : Sig} (y : α) (h1 : C rest y) (h2 : slots (S y) σ) (h3 : kept kS σ0 σ) : rndK kS σ0 C S rest Q e0 .nor e σ := ⟨y, h1, h2, h3⟩
theorem q_rnd_ret {α β : Type} {kS : List Nat} {σ0 : Sig} {C : List β → α → Prop} {S : α → List (Nat × (Nat × Res))} {rest : List β} {Q : Post} {e0 e : Nat → AV} {σ : Sig} (h : Q .ret e0 σ) : rndK kS σ0 C S rest Q e0 .ret e σ := h
theorem q_rnd_ex {α β : Type} {kS : List Nat} {σ0 : Sig} {C : List β → α → Prop} {S : α → List (Nat × (Nat × Res))} {rest : List β} {Q : Post} {e0 e : Nat → AV} {σ : Sig} {i : Nat} (h : Q (.ex i) e0 σ) : rndK kS σ0 C S rest Q e0 (.ex i) e σ := h
theorem q_asg {K : (Nat → AV) → Sig → Prop} {e : Nat → AV} {σ : Sig} (h : K e σ) : asgQ K .nor e σ := h
/-- A range over a function that gives these values. -/
theorem w_rfM {Q : Post} {e : Nat → AV} {σ : Sig} {f : IOpd} {ps : List Nat} {a b : IR} {α β : Type} {g : Nat} {lb : List AV} (enc : β → List AV) (xs : List β) (hf : f.ev e = .clo (.func g) [] lb) (hit : ItC P g (stripL lb) (xs.map enc)) (hlen : ∀ x, (enc x).length = ps.length)
    (kS : List Nat) (C : List β → α → Prop) (S : α → List (Nat × (Nat × Res))) (y0 : α) (hC : C xs y0) (hS : slots (S y0) σ)
    (hr : ∀ x rest y, C (x :: rest) y → ∀ σ', awp P a (asgQ (awp P b (rndK kS σ C S rest Q e))) (setE e ps (enc x)) (updL (S y) (keepL kS σ σ')))
    (hend : ∀ y, C [] y → ∀ σ', Q .nor e (updL (S y) (keepL kS σ σ'))) : awp P (.rf f ps a b) Q e σ := by
  have refl : ∀ {β : Type} (k : List Nat) (e : Nat → β), kept k e e := by
    intro β k e
    induction k with
    | nil => trivial
    | cons t r ih => exact ⟨rfl, ih⟩
  refine ⟨g, lb, xs.map enc, fun l σ' => ∃ rest y, l = rest.map enc ∧ C rest y ∧ slots (S y) σ' ∧ kept kS σ σ', hf, hit, ?_, ⟨xs, y0, rfl, hC, hS, refl _ _⟩, ?_, ?_⟩
  · intro x hx
    obtain ⟨z, _, rfl⟩ := List.mem_map.1 hx
    exact hlen z
  · rintro x rest σ' _ ⟨l, y, hl, h1, h2, h3⟩
    cases l with
    | nil => cases hl
    | cons z l =>
      simp only [List.map_cons, List.cons.injEq] at hl
      obtain ⟨rfl, rfl⟩ := hl
      have := hr z l y h1 σ'
      rw [keepL_kept h3, updL_slots h2] at this
      refine awp_mono (fun ax e2 σ2 h => ?_) this
      cases ax with
      | nor =>
        refine awp_mono (ir := b) (fun ax e3 σ3 h => ?_) h
        cases ax with
        | nor => obtain ⟨y', k1, k2, k3⟩ := h; exact ⟨l, y', rfl, k1, k2, k3⟩
        | ret => exact h
        | ex j => exact h
      | ret => exact h
      | ex j => exact h
  · rintro σ' ⟨l, y, hl, h1, h2, h3⟩
    cases l with
    | cons z l => cases hl
    | nil =>
      have := hend y h1 σ'
      rw [keepL_kept h3, updL_slots h2] at this
      exact this
end Go.Abs
namespace Go.Abs
variable {P : Program}
def getI (l : List Int) (i : Int) : Int := (l[i.toNat]?).getD 0
theorem getI_of {xs : List Int} {i y : Int} (h : xs[i.toNat]? = some y) : getI xs i = y := by simp [getI, h]
theorem w_ixG {K : (Nat → AV) → Sig → Prop} {e : Nat → AV} {σ : Sig} {xs : List Int} {d : Nat} {t : Tag} {x i : IOpd} {r : List IStep} {k : IntKind} {n : Int} (hx : x.ev e = .slc 1 (iR xs) t) (hi : i.ev e = .int k n) (h : 0 ≤ n ∧ n < xs.length)
    (hk : stepsW P r K (upd e d (.pin [.int .i64 (getI xs n)])) σ) : stepsW P (⟨some d, none, .ixA 1 x i⟩ :: r) K e σ :=
  w_ixM hx hi h fun y hy => by rw [getI_of hy] at hk; exact hk
end Go.Abs
namespace Go.Abs
variable {P : Program}
theorem acall_id {f : Nat} {args : List AV} {σ : Sig} {d : Nat} {Q : AV → Sig → Prop} (h : ACall P f args σ d Q) : ACall P f args σ d Q := h
/-- A guarded watch. -/
theorem w_g0 {K : (Nat → AV) → Sig → Prop} {e : Nat → AV} {σ : Sig} {g : Nat} {b c : Bool} {op : IOp} {r : List IStep} (h : e g = .bool c)
    (hk : grW c (fun c => stepsW P (⟨none, none, op⟩ :: r) K (upd e g (.bool c)) σ) (fun c => stepsW P r K (upd e g (.bool c)) σ) b) :
    stepsW P (⟨none, some (g, b), op⟩ :: r) K e σ := by
  have he := upd_same h
  show guardW (e g) b _ _
  rw [h]
  cases c <;> cases b <;> simp only [grW, ← he] at hk <;> exact hk
theorem w_gu0 {K : (Nat → AV) → Sig → Prop} {e : Nat → AV} {σ : Sig} {g : Nat} {b : Bool} {op : IOp} {r : List IStep} (h : e g = .tup []) (hk : stepsW P r K e σ) :
    stepsW P (⟨none, some (g, b), op⟩ :: r) K e σ := by
  show guardW (e g) b _ _
  rw [h]; exact hk
theorem g_hdn {A B : Bool → Prop} {p : Prop} [Decidable p] {b : Bool} (h : p) (hk : grW false A B b) : grW (!decide p) A B b := by rw [decide_eq_true h]; exact hk
theorem g_hndn {A B : Bool → Prop} {p : Prop} [Decidable p] {b : Bool} (h : ¬ p) (hk : grW true A B b) : grW (!decide p) A B b := by rw [decide_eq_false h]; exact hk
end Go.Abs
/-! ### The walk's engine: rules without conditions by instances, conditions by tactics that a rule names -/
namespace Go.Abs
theorem b_nT {A B : Prop} (h : B) : brW (!true) A B := h
theorem b_nF {A B : Prop} (h : A) : brW (!false) A B := h
theorem g_nT {A B : Bool → Prop} {b : Bool} (h : grW false A B b) : grW (!true) A B b := h
theorem g_nF {A B : Bool → Prop} {b : Bool} (h : grW true A B b) : grW (!false) A B b := h
/-- Two orders. -/
theorem w_alt {P : Program} {Q : Post} {e : Nat → AV} {σ : Sig} {a b : IR} (h1 : awp P a Q e σ) (h2 : awp P b Q e σ) : awp P (.alt a b) Q e σ := ⟨h1, h2⟩
/-- A goal, and what is enough for it. -/
class Rd (g : Prop) (a : outParam Prop) : Prop where
  p : a → g
/-- A goal in two cases. -/
class Rt (g : Prop) (p q a b : outParam Prop) : Prop where
  p : (p → a) → (q → b) → g
section
variable {P : Program} {Q : Post} {K : (Nat → AV) → Sig → Prop} {e : Nat → AV} {σ : Sig}
instance {l : List IStep} : Rd (awp P (.ops l) Q e σ) (stepsW P l (Q .nor) e σ) := ⟨w_ops⟩
instance : Rd (stepsW P [] K e σ) (K e σ) := ⟨w_nil⟩
instance {a b : IR} : Rd (awp P (.seq a b) Q e σ) (awp P a (seqQ (awp P b Q) Q) e σ) := ⟨w_seq⟩
instance : Rd (seqQ K Q .nor e σ) (K e σ) := ⟨q_seq⟩
instance {i : Nat} {b : IR} : Rd (awp P (.blk i b) Q e σ) (awp P b (blkQ i Q) e σ) := ⟨w_blk⟩
instance : Rd (awp P .ret Q e σ) (Q .ret e σ) := ⟨w_ret⟩
instance : Rd (awp P .skip Q e σ) (Q .nor e σ) := ⟨w_skip⟩
instance {i : Nat} : Rd (awp P (.exit i) Q e σ) (Q (.ex i) e σ) := ⟨w_exit⟩
instance {b : IR} : Rd (awp P (.scope b) Q e σ) (awp P b Q e σ) := ⟨w_scope⟩
instance {A B : Prop} : Rd (brW true A B) A := ⟨b_t⟩
instance {A B : Prop} : Rd (brW false A B) B := ⟨b_f⟩
instance {A B : Bool → Prop} : Rd (grW true A B true) (A true) := ⟨g_tt⟩
instance {A B : Bool → Prop} : Rd (grW true A B false) (B true) := ⟨g_tf⟩
instance {A B : Bool → Prop} : Rd (grW false A B true) (B false) := ⟨g_ft⟩
instance {A B : Bool → Prop} : Rd (grW false A B false) (A false) := ⟨g_ff⟩
instance {A B : Prop} : Rd (brW (!true) A B) B := ⟨b_nT⟩
instance {A B : Prop} : Rd (brW (!false) A B) A := ⟨b_nF⟩
instance {A B : Bool → Prop} {b : Bool} : Rd (grW (!true) A B b) (grW false A B b) := ⟨g_nT⟩
instance {A B : Bool → Prop} {b : Bool} : Rd (grW (!false) A B b) (grW true A B b) := ⟨g_nF⟩
instance {i : Nat} : Rd (seqQ K Q (.ex i) e σ) (Q (.ex i) e σ) := ⟨q_seq_ex⟩
instance : Rd (seqQ K Q .ret e σ) (Q .ret e σ) := ⟨q_seq_ret⟩
instance {i : Nat} : Rd (blkQ i Q .nor e σ) (Q .nor e σ) := ⟨q_blk⟩
instance {i : Nat} : Rd (blkQ i Q .ret e σ) (Q .ret e σ) := ⟨q_blk_ret⟩
instance {i : Nat} : Rd (blkQ i Q (.ex i) e σ) (Q .nor e σ) := ⟨q_blk_same⟩
instance {α : Type} {kE kS : List Nat} {e0 : Nat → AV} {σ0 : Sig} {C : α → Prop} {μ : α → Nat} {F : α → List (Nat × AV)} {S : α → List (Nat × Nat × Res)} {n i : Nat} : Rd (loopK kE kS e0 σ0 C μ F S n Q (.ex i) e σ) (Q (.ex i) e σ) := ⟨q_loop_ex⟩
instance {α : Type} {kE kS : List Nat} {e0 : Nat → AV} {σ0 : Sig} {C : α → Prop} {μ : α → Nat} {F : α → List (Nat × AV)} {S : α → List (Nat × Nat × Res)} {n : Nat} : Rd (loopK kE kS e0 σ0 C μ F S n Q .ret e σ) (Q .ret e σ) := ⟨q_loop_ret⟩
instance {d : Nat} {v : AV} : Rd (contS e (some d) K v σ) (K (upd e d v) σ) := ⟨w_cont⟩
instance {v : AV} : Rd (contS e none K v σ) (K e σ) := ⟨w_cont0⟩
instance : Rd (asgQ K .nor e σ) (K e σ) := ⟨q_asg⟩
instance {α β : Type} {kS : List Nat} {σ0 : Sig} {C : List β → α → Prop} {S : α → List (Nat × (Nat × Res))} {rest : List β} {e0 : Nat → AV} : Rd (rndK kS σ0 C S rest Q e0 .ret e σ) (Q .ret e0 σ) := ⟨q_rnd_ret⟩
instance {α β : Type} {kS : List Nat} {σ0 : Sig} {C : List β → α → Prop} {S : α → List (Nat × (Nat × Res))} {rest : List β} {e0 : Nat → AV} {i : Nat} : Rd (rndK kS σ0 C S rest Q e0 (.ex i) e σ) (Q (.ex i) e0 σ) := ⟨q_rnd_ex⟩
instance {A B p : Prop} [Decidable p] : Rt (brW (decide p) A B) p (¬ p) A B := ⟨b_d⟩
instance {A B p : Prop} [Decidable p] : Rt (brW (!decide p) A B) (¬ p) p A B := ⟨b_n⟩
instance {A B : Bool → Prop} {p : Prop} [Decidable p] : Rt (grW (decide p) A B true) p (¬ p) (A true) (B false) := ⟨g_dt⟩
instance {A B : Bool → Prop} {p : Prop} [Decidable p] : Rt (grW (decide p) A B false) p (¬ p) (B true) (A false) := ⟨g_df⟩
instance {A B : Bool → Prop} {p : Prop} [Decidable p] : Rt (grW (!decide p) A B true) (¬ p) p (A true) (B false) := ⟨g_nt⟩
instance {A B : Bool → Prop} {p : Prop} [Decidable p] : Rt (grW (!decide p) A B false) (¬ p) p (B true) (A false) := ⟨g_nf⟩
instance (priority := low) {A B : Prop} {c : Bool} : Rt (brW (!c) A B) (c = false) (c = true) A B := ⟨b_nb⟩
instance (priority := low) {A B : Bool → Prop} {c : Bool} : Rt (grW (!c) A B true) (c = false) (c = true) (A true) (B false) := ⟨g_nbt⟩
instance (priority := low) {A B : Bool → Prop} {c : Bool} : Rt (grW (!c) A B false) (c = false) (c = true) (B true) (A false) := ⟨g_nbf⟩
instance (priority := 10) {A B : Prop} {c : Bool} : Rt (brW c A B) (c = true) (c = false) A B := ⟨b_b⟩
instance (priority := 10) {A B : Bool → Prop} {c : Bool} : Rt (grW c A B true) (c = true) (c = false) (A true) (B false) := ⟨g_bt⟩
instance (priority := 10) {A B : Bool → Prop} {c : Bool} : Rt (grW c A B false) (c = true) (c = false) (B true) (A false) := ⟨g_bf⟩
/-- A side condition. -/
theorem sd {p : Prop} (h : p := by ((repeat' (with_reducible (first | exact trivial | apply And.intro))) <;> first | (with_reducible rfl) | omega | (unfold inI; omega) | (exact Nat.le_of_ble_eq_true rfl) | (simp; done) | (simp; omega) | (simp at *; omega) | assumption | rfl)) : p := h
theorem zI {α : Type} {f : α → List AV} {l : List α} {d sz : Nat} {t : Tag} {x i : IOpd} {r : List IStep} {k : IntKind} {n : Int} (hk : ∀ y, l[n.toNat]? = some y → stepsW P r K (upd e d (.pin (f y))) σ) (hx : x.ev e = .slc sz (l.map f) t := by with_unfolding_all exact rfl) (hi : i.ev e = .int k n := by with_unfolding_all exact rfl) (h : 0 ≤ n ∧ n < l.length := by with_unfolding_all exact sd) : stepsW P (⟨some d, none, .ixA sz x i⟩ :: r) K e σ := w_ixM hx hi h hk
theorem zL {α : Type} {f : α → List AV} {l : List α} {d sz : Nat} {t : Tag} {x : IOpd} {r : List IStep} (hk : stepsW P r K (upd e d (.int .i64 l.length)) σ) (hx : x.ev e = .slc sz (l.map f) t := by with_unfolding_all exact rfl) : stepsW P (⟨some d, none, .len false x⟩ :: r) K e σ := w_lenM hx hk
theorem zS {α : Type} {f : α → List AV} {l : List α} {d sz : Nat} {t : Tag} {x : IOpd} {lo hi : Option IOpd} {a b : Int} {r : List IStep} (hk : stepsW P r K (upd e d (.slc sz (((l.drop a.toNat).take (b - a).toNat).map f) .non)) σ) (hx : x.ev e = .slc sz (l.map f) t := by with_unfolding_all exact rfl) (ha : boundO e 0 lo = some a := by with_unfolding_all exact rfl) (hb : boundO e l.length hi = some b := by with_unfolding_all exact rfl) (h : 0 ≤ a ∧ a ≤ b ∧ b ≤ l.length := by with_unfolding_all exact sd) : stepsW P (⟨some d, none, .slS sz x lo hi none⟩ :: r) K e σ := w_slM hx ha hb h hk
theorem zA {σ' : Sig} {d sz bytes i : Nat} {x y : IOpd} {r : List IStep} {p q : Prop} {es ys zs : List (List AV)} (hk : ∀ g, stepsW P r K (upd e d (.slc sz zs (.own i g))) (newS σ' i g [])) (hx : baseO sz σ (x.ev e) = some (p, es, σ') := by with_unfolding_all exact rfl) (hy : rowsO sz (y.ev e) = some (q, ys) := by with_unfolding_all exact rfl)
    (hz : es ++ ys = zs := by with_unfolding_all (first | exact app_one (z := Guest.mk _ _ _ _ _) rfl | exact app_one (z := Dish.mk _ _ _) rfl | exact app_one (z := Rule.mk _ _ _ _) rfl | exact app_one (z := Bond.mk _ _ _) rfl | exact app_one rfl | exact app_map | exact app_nil | exact rfl)) (hp : p ∧ q := by with_unfolding_all exact sd) (hb : zs.length * bytes ≤ 140737488355328 := by with_unfolding_all exact sd) : stepsW P (⟨some d, none, .app sz bytes x y i⟩ :: r) K e σ := w_appS hx hy hz hp hb hk
theorem zV {d : Nat} {op : IOp} {r : List IStep} {p : Prop} {v : AV} (hk : stepsW P r K (upd e d v) σ) (h : valO op e σ = some (p, v) := by with_unfolding_all exact rfl) (hp : p := by with_unfolding_all exact sd) : stepsW P (⟨some d, none, op⟩ :: r) K e σ := w_val h hp hk
theorem zC {c : IOpd} {a b : IR} {t : Bool} (hk : brW t (awp P a Q e σ) (awp P b Q e σ)) (h : c.ev e = .bool t := by with_unfolding_all exact rfl) : awp P (.cnd c a b) Q e σ := w_c h hk
theorem zG {d g : Nat} {b c : Bool} {op : IOp} {r : List IStep} (hk : grW c (fun c => stepsW P (⟨some d, none, op⟩ :: r) K (upd e g (.bool c)) σ) (fun c => stepsW P r K (upd (upd e g (.bool c)) d (.tup [])) σ) b) (h : e g = .bool c := by with_unfolding_all exact rfl) : stepsW P (⟨some d, some (g, b), op⟩ :: r) K e σ := w_g h hk
theorem zU {d g : Nat} {b : Bool} {op : IOp} {r : List IStep} (hk : stepsW P r K (upd e d (.tup [])) σ) (h : e g = .tup [] := by with_unfolding_all exact rfl) : stepsW P (⟨some d, some (g, b), op⟩ :: r) K e σ := w_gu h hk
theorem zG0 {g : Nat} {b c : Bool} {op : IOp} {r : List IStep} (hk : grW c (fun c => stepsW P (⟨none, none, op⟩ :: r) K (upd e g (.bool c)) σ) (fun c => stepsW P r K (upd e g (.bool c)) σ) b) (h : e g = .bool c := by with_unfolding_all exact rfl) : stepsW P (⟨none, some (g, b), op⟩ :: r) K e σ := w_g0 h hk
theorem zU0 {g : Nat} {b : Bool} {op : IOp} {r : List IStep} (hk : stepsW P r K e σ) (h : e g = .tup [] := by with_unfolding_all exact rfl) : stepsW P (⟨none, some (g, b), op⟩ :: r) K e σ := w_gu0 h hk
theorem zF {d f : Nat} {args : List IOpd} {l : List AV} {r : List IStep} (hk : ACall P f l σ d (contS e (some d) (stepsW P r K))) (h : evO e args = some l := by with_unfolding_all exact rfl) : stepsW P (⟨some d, none, .callF f args⟩ :: r) K e σ := w_call h hk
theorem zF0 {f : Nat} {args : List IOpd} {l : List AV} {r : List IStep} (hk : ACall P f l σ 0 (contS e none (stepsW P r K))) (h : evO e args = some l := by with_unfolding_all exact rfl) : stepsW P (⟨none, none, .callF f args⟩ :: r) K e σ := w_call0 h hk
theorem zX {d f : Nat} {x : IOpd} {args : List IOpd} {l a b : List AV} {r : List IStep} (hk : ACall P f (a ++ l ++ b) σ d (contS e (some d) (stepsW P r K))) (hx : x.ev e = .clo (.func f) a b := by with_unfolding_all exact rfl) (h : evO e args = some l := by with_unfolding_all exact rfl) : stepsW P (⟨some d, none, .callV x args⟩ :: r) K e σ := w_callV hx h hk
theorem zX0 {f : Nat} {x : IOpd} {args : List IOpd} {l a b : List AV} {r : List IStep} (hk : ACall P f (a ++ l ++ b) σ 0 (contS e none (stepsW P r K))) (hx : x.ev e = .clo (.func f) a b := by with_unfolding_all exact rfl) (h : evO e args = some l := by with_unfolding_all exact rfl) : stepsW P (⟨none, none, .callV x args⟩ :: r) K e σ := w_callV0 hx h hk
theorem zD {d : Nat} {op : IOp} {r : List IStep} {p : Prop} {v : Nat → AV} {σ' : Nat → Sig} (hk : ∀ g, stepsW P r K (upd e d (v g)) (σ' g)) (h : ∀ g, effO d op e σ g = some (p, v g, σ' g) := by with_unfolding_all exact fun _ => rfl) (hp : p := by with_unfolding_all exact sd) : stepsW P (⟨some d, none, op⟩ :: r) K e σ := w_det h hp hk
theorem zD0 {op : IOp} {r : List IStep} {p : Prop} {v : AV} {σ' : Sig} (hk : stepsW P r K e σ') (h : ∀ g, effO 0 op e σ g = some (p, v, σ') := by with_unfolding_all exact fun _ => rfl) (hp : p := by with_unfolding_all exact sd) : stepsW P (⟨none, none, op⟩ :: r) K e σ := w_det0 h hp hk
theorem zN {i j : Nat} (hk : Q (.ex j) e σ) (h : Nat.beq j i = false := by with_unfolding_all exact rfl) : blkQ i Q (.ex j) e σ := q_blk_ne h hk
theorem z1 {A B p : Prop} [Decidable p] (hA : A) (hp : p := by first | omega | with_reducible rfl) : brW (decide p) A B := b_dt hp hA
theorem z2 {A B p : Prop} [Decidable p] (hA : B) (hp : ¬ p := by omega) : brW (decide p) A B := b_df hp hA
theorem z3 {A B p : Prop} [Decidable p] (hA : B) (hp : p := by first | omega | with_reducible rfl) : brW (!decide p) A B := b_nt hp hA
theorem z4 {A B p : Prop} [Decidable p] (hA : A) (hp : ¬ p := by omega) : brW (!decide p) A B := b_nf hp hA
theorem z5 {A B : Prop} {c : Bool} (hA : A) (h : c = true := by assumption) : brW c A B := b_ht h hA
theorem z6 {A B : Prop} {c : Bool} (hA : B) (h : c = false := by assumption) : brW c A B := b_hf h hA
theorem z7 {A B : Prop} {c : Bool} (hA : B) (h : c = true := by assumption) : brW (!c) A B := b_hnt h hA
theorem z8 {A B : Prop} {c : Bool} (hA : A) (h : c = false := by assumption) : brW (!c) A B := b_hnf h hA
theorem y1 {A B : Bool → Prop} {c b : Bool} (hk : grW true A B b) (h : c = true := by assumption) : grW c A B b := g_ht h hk
theorem y2 {A B : Bool → Prop} {c b : Bool} (hk : grW false A B b) (h : c = false := by assumption) : grW c A B b := g_hf h hk
theorem y3 {A B : Bool → Prop} {c b : Bool} (hk : grW false A B b) (h : c = true := by assumption) : grW (!c) A B b := g_hnt h hk
theorem y4 {A B : Bool → Prop} {c b : Bool} (hk : grW true A B b) (h : c = false := by assumption) : grW (!c) A B b := g_hnf h hk
theorem y5 {A B : Bool → Prop} {p : Prop} [Decidable p] {b : Bool} (hk : grW true A B b) (h : p := by first | omega | with_reducible rfl) : grW (decide p) A B b := g_hd h hk
theorem y6 {A B : Bool → Prop} {p : Prop} [Decidable p] {b : Bool} (hk : grW false A B b) (h : ¬ p := by omega) : grW (decide p) A B b := g_hnd h hk
theorem y7 {A B : Bool → Prop} {p : Prop} [Decidable p] {b : Bool} (hk : grW false A B b) (h : p := by first | omega | with_reducible rfl) : grW (!decide p) A B b := g_hdn h hk
theorem y8 {A B : Bool → Prop} {p : Prop} [Decidable p] {b : Bool} (hk : grW true A B b) (h : ¬ p := by omega) : grW (!decide p) A B b := g_hndn h hk
theorem zE {R : AV → Sig → Prop} {res : List (Nat × Option (Nat × Bool))} {p : Prop} {l : List AV} (hR : R (untag (tupV l)) σ) (h : resV e σ res = some (p, l) := by with_unfolding_all exact rfl) (hp : p := by with_unfolding_all exact sd) : EndS res (fun a s => ∃ a', Sub a a' ∧ R a' s) .ret e σ := q_ends h hp hR
theorem zE0 {R : AV → Sig → Prop} {res : List (Nat × Option (Nat × Bool))} {p : Prop} {l : List AV} (hR : R (untag (tupV l)) σ) (h : resV e σ res = some (p, l) := by with_unfolding_all exact rfl) (hp : p := by with_unfolding_all exact sd) : EndS res (fun a s => ∃ a', Sub a a' ∧ R a' s) .nor e σ := q_endn h hp hR
theorem zO {R : AV → Sig → Prop} {res : List (Nat × Option (Nat × Bool))} {p : Prop} {l : List AV} (hR : R (tupV l) σ) (h : resV e σ res = some (p, l) := by with_unfolding_all exact rfl) (hp : p := by with_unfolding_all exact sd) : EndS res (fun a s => ∃ a', Sub a a' ∧ R a' s) .ret e σ := q_endo h hp hR
theorem zQ {α : Type} {kE kS : List Nat} {e0 : Nat → AV} {σ0 : Sig} {C : α → Prop} {μ : α → Nat} {F : α → List (Nat × AV)} {S : α → List (Nat × Nat × Res)} {n : Nat} (y : α) (h1 : C y) (h2 : μ y < n) (h3 : slots (F y) e := by exact (by repeat' (first | exact slots_nil | apply slots_cons | rfl | (rw [map_snoc]; rfl) | (rw [len_snoc]; rfl) | (rw [hS]; rfl) | (rw [hS, map_snoc]; rfl) | (refine int_eq ?_; (try dsimp only); omega) | (refine congrArg AV.bool ?_; simp_all; done)))) (h4 : slots (S y) σ := by exact (by repeat' (first | exact slots_nil | apply slots_cons | rfl | (rw [map_snoc]; rfl) | (rw [len_snoc]; rfl) | (rw [hS]; rfl) | (rw [hS, map_snoc]; rfl) | (refine int_eq ?_; (try dsimp only); omega) | (refine congrArg AV.bool ?_; simp_all; done)))) (h5 : kept kE e0 e := by exact (by repeat' (first | exact kept_nil | apply kept_cons | rfl))) (h6 : kept kS σ0 σ := by exact (by repeat' (first | exact kept_nil | apply kept_cons | rfl))) : loopK kE kS e0 σ0 C μ F S n Q .nor e σ := q_loop y h1 h2 h3 h4 h5 h6
theorem zQi {d l : Nat} {x : IOpd} {args : List IOpd} {av y : List AV} {rest : List (List AV)} {r : List IStep} (hk : ∀ b, stepsW P r K (upd e d (.bool b)) (upd σ YS (0, .yld l (yNext rest b)))) (hx : x.ev e = .clo (.yield l) [] [] := by with_unfolding_all exact rfl) (h : evO e args = some av := by with_unfolding_all exact rfl) (hσ : σ YS = (0, .yld l (some (y :: rest))) := by with_unfolding_all exact rfl) (hy : stripL av = y := by with_unfolding_all exact rfl) : stepsW P (⟨some d, none, .callV x args⟩ :: r) K e σ := w_yield hx h hσ hy hk
theorem zGi {xs : List Int} {d : Nat} {t : Tag} {x i : IOpd} {r : List IStep} {k : IntKind} {n : Int} (hk : stepsW P r K (upd e d (.pin [.int .i64 (getI xs n)])) σ) (hx : x.ev e = .slc 1 (iR xs) t := by with_unfolding_all exact rfl) (hi : i.ev e = .int k n := by with_unfolding_all exact rfl) (h : 0 ≤ n ∧ n < xs.length := by with_unfolding_all exact sd) : stepsW P (⟨some d, none, .ixA 1 x i⟩ :: r) K e σ := w_ixG hx hi h hk
end
end Go.Abs
