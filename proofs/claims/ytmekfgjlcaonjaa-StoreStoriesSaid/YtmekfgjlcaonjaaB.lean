/- A part of the proofs of the laws of this seat: contracts of the functions that they reach, each proved of the program's form in Lean. No condition beyond those that each contract names. -/
import Derived.Test.YtmekfgjlcaonjaaProg
import Derived.Test.YtmekfgjlcaonjaaSnd3
set_option linter.unusedVariables false
set_option linter.unusedSimpArgs false
set_option maxRecDepth 20000
set_option maxHeartbeats 4000000
namespace Go.Abs
open Go.Proofs
variable {P : Program}
abbrev iR (xs : List Int) : List (List AV) := xs.map fun n => [.int .i64 n]
theorem w_ixM {K : (Nat → AV) → Sig → Prop} {e : Nat → AV} {σ : Sig} {α : Type} {f : α → List AV} {l : List α} {d sz : Nat} {t : Tag} {x i : IOpd} {r : List IStep} {k : IntKind} {n : Int} (hx : x.ev e = .slc sz (l.map f) t) (hi : i.ev e = .int k n) (h : 0 ≤ n ∧ n < l.length)
    (hk : ∀ y, l[n.toNat]? = some y → stepsW P r K (upd e d (.pin (f y))) σ) : stepsW P (⟨some d, none, .ixA sz x i⟩ :: r) K e σ := by
  refine w_val (v := .pin ((l.map f).getD n.toNat [])) (p := sz = sz ∧ 0 ≤ n ∧ n < (l.map f).length) (by show ixAO sz (x.ev e) (i.ev e) = _; rw [hx, hi]; rfl) ⟨rfl, h.1, by simpa using h.2⟩ ?_
  have hlt : n.toNat < l.length := by omega
  have : (l.map f).getD n.toNat [] = f l[n.toNat] := by
    rw [List.getD_eq_getElem?_getD, List.getElem?_map, List.getElem?_eq_getElem hlt]; rfl
  rw [this]; exact hk _ (List.getElem?_eq_getElem hlt)
/-- The element behind what has been seen. -/
theorem w_ixP {K : (Nat → AV) → Sig → Prop} {e : Nat → AV} {σ : Sig} {α : Type} {f : α → List AV} {l : List α} {pre post : List α} {y : α} {d sz : Nat} {t : Tag} {x i : IOpd} {r : List IStep} (hl : l = pre ++ y :: post) (hx : x.ev e = .slc sz (l.map f) t) (hi : i.ev e = .int .i64 pre.length)
    (hk : stepsW P r K (upd e d (.pin (f y))) σ) : stepsW P (⟨some d, none, .ixA sz x i⟩ :: r) K e σ := by
  subst hl
  refine w_val (v := .pin (((pre ++ y :: post).map f).getD ((pre.length : Int)).toNat [])) (p := sz = sz ∧ 0 ≤ (pre.length : Int) ∧ (pre.length : Int) < ((pre ++ y :: post).map f).length) (by show ixAO sz (x.ev e) (i.ev e) = _; rw [hx, hi]; rfl) ⟨rfl, by omega, by simp; omega⟩ ?_
  have : ((pre ++ y :: post).map f).getD ((pre.length : Int)).toNat [] = f y := by
    rw [List.getD_eq_getElem?_getD, Int.toNat_natCast, List.getElem?_map]
    simp
  rw [this]; exact hk
def BoxS (g : Nat) (w : Int) : Sig := sg [(1000, (g, .row [.int .u64 w]))]
def BoxR (g : Nat) (V : AV → Prop) : AV → Sig → Prop := fun av σ' => ∃ w', V av ∧ σ' 1000 = (g, .row [.int .u64 w'])
/-- A call of a method of the box. -/
theorem ACall.box {f : Nat} {args0 args : List AV} {V : AV → Prop} {σ : Sig} {d j g : Nat} {w : Int} {Q : AV → Sig → Prop} (h : RawC P f (.ref 1000 g 0 :: args0) (BoxS g w) (BoxR g V)) (hr : renOK [(1000, j)] = true) (hσ : σ j = (g, .row [.int .u64 w]))
    (ha : args0 = renL [(j, 1000)] args) (hQ : ∀ av w', V av → Q (ren [(1000, j)] av) (upd σ j (g, .row [.int .u64 w']))) : ACall P f (.ref j g 0 :: args) σ d Q := by
  subst ha
  refine ACall.lift (l0 := [(1000, (g, .row [.int .u64 w]))]) h [(1000, j)] none hr ?_ ?_ ⟨⟨_, by rw [hσ]⟩, trivial⟩ ?_
  · show _ = ren _ _ :: _
    have : lk (flipL [(1000, j)]) j = some 1000 := by simp [flipL, lk]
    simp only [ren, this]; rfl
  · simp only [pull, hσ, renR]; rfl
  · rintro av σ0' ⟨w', hV, hs⟩
    have := hQ av w' hV
    have e := push_one (ρ := outs d none ++ [(1000, j)]) (σ := σ) (b := j) (r := []) hs
    rw [show (outs d none ++ [(1000, j)]) = [(1000, j)] from rfl] at e ⊢
    rw [e]; exact this
end Go.Abs
namespace Go.Abs
theorem wrap_u64 (n : Int) : 0 ≤ IntKind.u64.wrap n ∧ IntKind.u64.wrap n < 18446744073709551616 := by
  simp [IntKind.wrap, IntKind.bits, IntKind.signed]; omega
theorem wrap_u64_id (n : Int) (h : 0 ≤ n) (h2 : n < 18446744073709551616) : IntKind.u64.wrap n = n := by
  simp [IntKind.wrap, IntKind.bits, IntKind.signed]; omega
end Go.Abs
namespace Go.Abs
variable {P : Program}
theorem w_lenM {K : (Nat → AV) → Sig → Prop} {e : Nat → AV} {σ : Sig} {α : Type} {f : α → List AV} {l : List α} {d sz : Nat} {t : Tag} {x : IOpd} {r : List IStep} (hx : x.ev e = .slc sz (l.map f) t)
    (hk : stepsW P r K (upd e d (.int .i64 l.length)) σ) : stepsW P (⟨some d, none, .len false x⟩ :: r) K e σ := by
  refine w_val (v := .int .i64 (l.map f).length) (p := True) (by show lenO false (x.ev e) = _; rw [hx]; rfl) trivial ?_
  rw [List.length_map]; exact hk
theorem w_slM {K : (Nat → AV) → Sig → Prop} {e : Nat → AV} {σ : Sig} {α : Type} {f : α → List AV} {l : List α} {d sz : Nat} {t : Tag} {x : IOpd} {lo hi : Option IOpd} {a b : Int} {r : List IStep} (hx : x.ev e = .slc sz (l.map f) t)
    (ha : boundO e 0 lo = some a) (hb : boundO e l.length hi = some b) (h : 0 ≤ a ∧ a ≤ b ∧ b ≤ l.length)
    (hk : stepsW P r K (upd e d (.slc sz (((l.drop a.toNat).take (b - a).toNat).map f) .non)) σ) : stepsW P (⟨some d, none, .slS sz x lo hi none⟩ :: r) K e σ := by
  refine w_val (v := .slc sz (((l.map f).drop a.toNat).take (b - a).toNat) .non) (p := sz = sz ∧ 0 ≤ a ∧ a ≤ b ∧ b ≤ (l.map f).length) ?_ ⟨rfl, h.1, h.2.1, by simpa using h.2.2⟩ ?_
  · show slSO sz e (x.ev e) lo hi none = _
    rw [hx]
    simp only [slSO, ha, List.length_map, hb]
  · rw [← List.map_drop, ← List.map_take]; exact hk
theorem b_dt {A B p : Prop} [Decidable p] (hp : p) (h : A) : brW (decide p) A B := by rw [decide_eq_true hp]; exact h
theorem b_df {A B p : Prop} [Decidable p] (hp : ¬ p) (h : B) : brW (decide p) A B := by rw [decide_eq_false hp]; exact h
theorem b_nt {A B p : Prop} [Decidable p] (hp : p) (h : B) : brW (!decide p) A B := by rw [decide_eq_true hp]; exact h
theorem b_nf {A B p : Prop} [Decidable p] (hp : ¬ p) (h : A) : brW (!decide p) A B := by rw [decide_eq_false hp]; exact h
/-- A contract's post: ghost values, the value, the sites. -/
def SR {α : Type} (V : α → AV → Prop) (L : α → List (Nat × (Nat × Res))) : AV → Sig → Prop := fun av σ' => ∃ x, V x av ∧ slots (L x) σ'
def lkS (a : Nat) : List (Nat × (Nat × Res)) → Option (Nat × Res)
  | [] => none
  | (b, x) :: r => match Nat.beq b a with
    | true => some x
    | false => lkS a r
def pushV (ρ : List (Nat × Nat)) (L : List (Nat × (Nat × Res))) : List (Nat × Nat) → Sig → Sig
  | [], σ => σ
  | (a, b) :: r, σ => match lkS a L with
    | some x => upd (pushV ρ L r σ) b (x.1, renR ρ x.2)
    | none => pushV ρ L r σ
def covers (L : List (Nat × (Nat × Res))) : List (Nat × Nat) → Bool
  | [] => true
  | (a, _) :: r => match lkS a L with
    | some _ => covers L r
    | none => false
theorem lkS_slots {σ0 : Sig} {a : Nat} {x : Nat × Res} : ∀ {L : List (Nat × (Nat × Res))}, slots L σ0 → lkS a L = some x → σ0 a = x
  | (b, y) :: r, ⟨h1, h2⟩, h => by
    simp only [lkS] at h
    split at h
    · rename_i hb; cases h; rw [← nbeq.1 hb]; exact h1
    · exact lkS_slots h2 h
theorem push_slots {ρ : List (Nat × Nat)} {σ0 σ : Sig} {L : List (Nat × (Nat × Res))} (h : slots L σ0) : ∀ {l : List (Nat × Nat)}, covers L l = true → push ρ σ0 l σ = pushV ρ L l σ
  | [], _ => rfl
  | (a, b) :: r, hc => by
    simp only [covers] at hc
    split at hc
    · rename_i x hx
      simp only [push, pushV, hx]
      rw [push_slots h hc, lkS_slots h hx]
    · cases hc
theorem ACall.liftS {f : Nat} {args0 args : List AV} {l0 : List (Nat × (Nat × Res))} {σ : Sig} {α : Type} {V : α → AV → Prop} {L : α → List (Nat × (Nat × Res))} {d : Nat} {Q : AV → Sig → Prop} (h : RawC P f args0 (sg l0) (SR V L)) (ρi : List (Nat × Nat)) (s : Option Nat) (hr : renOK (outs d s ++ ρi) = true)
    (ha : args0 = renL (flipL ρi) args) (h0 : l0 = pull (flipL ρi) σ ρi) (hl : liveL σ ρi) (hc : ∀ x, covers (L x) (outs d s ++ ρi) = true) (hQ : ∀ x av, V x av → Q (ren (outs d s ++ ρi) av) (pushV (outs d s ++ ρi) (L x) (outs d s ++ ρi) σ)) : ACall P f args σ d Q :=
  ACall.lift h ρi s hr ha h0 hl fun av σ0' ⟨x, hV, hs⟩ => by rw [push_slots hs (hc x)]; exact hQ x av hV
theorem map_snoc {α : Type} {f : α → List AV} {l : List α} {x : α} : (l ++ [x]).map f = l.map f ++ [f x] := by simp
end Go.Abs
namespace Go.Abs
theorem len_snoc {α : Type} {l : List α} {x : α} : (l ++ [x]).length = l.length + 1 := by simp
structure Guest where
  name : ByteArray
  rank : Int
  honour : Int
  never : Int
  maybe : Int
  deriving DecidableEq
structure Dish where
  turn : Int
  parts : Int
  cost : Int
  deriving DecidableEq
structure Rule where
  kind : Int
  a : Int
  b : Int
  weight : Int
  deriving DecidableEq
structure Bond where
  kind : Int
  a : Int
  b : Int
  deriving DecidableEq
abbrev Guest.row (g : Guest) : List AV := [.str g.name, .int .i64 g.rank, .int .i64 g.honour, .int .i64 g.never, .int .i64 g.maybe]
abbrev Dish.row (g : Dish) : List AV := [.int .i64 g.turn, .int .i64 g.parts, .int .i64 g.cost]
abbrev Rule.row (g : Rule) : List AV := [.int .i64 g.kind, .int .i64 g.a, .int .i64 g.b, .int .i64 g.weight]
abbrev Bond.row (g : Bond) : List AV := [.int .i64 g.kind, .int .i64 g.a, .int .i64 g.b]
def inB (n a b : Int) : Bool := decide (a ≤ n ∧ n ≤ b)
theorem inB_t {n a b : Int} : inB n a b = true ↔ a ≤ n ∧ n ≤ b := by simp [inB]
end Go.Abs
namespace Go.Abs
theorem slots_nil {β : Type} {e : Nat → β} : slots [] e := trivial
theorem slots_cons {β : Type} {e : Nat → β} {i : Nat} {v : β} {r : List (Nat × β)} (h : e i = v) (h2 : slots r e) : slots ((i, v) :: r) e := ⟨h, h2⟩
theorem kept_nil {β : Type} {e e' : Nat → β} : kept [] e e' := trivial
theorem kept_cons {β : Type} {e e' : Nat → β} {i : Nat} {r : List Nat} (h : e' i = e i) (h2 : kept r e e') : kept (i :: r) e e' := ⟨h, h2⟩
end Go.Abs
namespace Go.Abs
variable {P : Program}
/-- A call with less known of its arguments. -/
theorem ACall.weak {f : Nat} {args args' : List AV} {σ : Sig} {d : Nat} {Q : AV → Sig → Prop} (hw : ∀ G vals, RelL G args vals → RelL G args' vals) (h : ACall P f args' σ d Q) : ACall P f args σ d Q :=
  ⟨h.1, fun Y T G w vals a b c r => h.2 Y T G w vals a b c (hw G vals r)⟩
theorem RawC.weak {f : Nat} {args args' : List AV} {σ : Sig} {R : AV → Sig → Prop} (hw : ∀ G vals, RelL G args vals → RelL G args' vals) (h : RawC P f args' σ R) : RawC P f args σ R :=
  ⟨h.1, fun Y T G w vals a b c r => h.2 Y T G w vals a b c (hw G vals r)⟩
theorem Sub.nil {sz : Nat} {t : Tag} : Sub .nsl (.slc sz [] t) := fun G v h => .inl ⟨.inl h, rfl⟩
theorem Sub.refl (a : AV) : Sub a a := fun _ _ h => h
def SubL : List AV → List AV → Prop
  | [], [] => True
  | a :: r, b :: s => Sub a b ∧ SubL r s
  | _, _ => False
theorem SubL.rel {G : GS} : ∀ {l m : List AV} {vals : List Value}, SubL l m → RelL G l vals → RelL G m vals
  | [], [], _, _, h => h
  | a :: r, b :: s, _, ⟨h1, h2⟩, ⟨v, t, h3, h4, h5⟩ => ⟨v, t, h3, h1 G v h4, SubL.rel h2 h5⟩
abbrev llR (ls : List (List Int)) : List (List AV) := ls.map fun l => [.slc 1 (iR l) .non]
/-- A list that may be nil. -/
def NowV (a : AV) (l : List Int) : Prop := (a = .nsl ∧ l = []) ∨ (a = .slc 1 (iR l) .non ∧ l ≠ [])
end Go.Abs
namespace Go.Abs
variable {P : Program}
theorem w_appS {K : (Nat → AV) → Sig → Prop} {e : Nat → AV} {σ σ' : Sig} {d sz bytes i : Nat} {x y : IOpd} {r : List IStep} {p q : Prop} {es ys zs : List (List AV)} (hx : baseO sz σ (x.ev e) = some (p, es, σ')) (hy : rowsO sz (y.ev e) = some (q, ys))
    (hz : es ++ ys = zs) (hp : p ∧ q) (hb : zs.length * bytes ≤ 140737488355328) (hk : ∀ g, stepsW P r K (upd e d (.slc sz zs (.own i g))) (newS σ' i g [])) : stepsW P (⟨some d, none, .app sz bytes x y i⟩ :: r) K e σ := by
  refine w_det (p := p ∧ q ∧ (es.length + ys.length) * bytes ≤ 140737488355328) (v := fun g => .slc sz (es ++ ys) (.own i g)) (σ' := fun g => newS σ' i g []) (fun g => ?_) ⟨hp.1, hp.2, ?_⟩ fun g => ?_
  · show (match baseO sz σ (x.ev e), rowsO sz (y.ev e) with
      | some (p, es, σ'), some (q, ys) => some (p ∧ q ∧ (es.length + ys.length) * bytes ≤ 140737488355328, AV.slc sz (es ++ ys) (.own i g), newS σ' i g [])
      | _, _ => none) = _
    rw [hx, hy]
  · rw [← hz, List.length_append] at hb; exact hb
  · rw [hz]; exact hk g
theorem app_one {α : Type} {f : α → List AV} {l : List α} {z : α} {r : List AV} (h : f z = r) : l.map f ++ [r] = (l ++ [z]).map f := by rw [← h]; simp
theorem app_map {α : Type} {f : α → List AV} {l m : List α} : l.map f ++ m.map f = (l ++ m).map f := by simp
theorem app_nil {ys : List (List AV)} : [] ++ ys = ys := rfl
end Go.Abs
namespace Go.Abs
theorem int_eq {a b : Int} (h : a = b) : AV.int .i64 a = AV.int .i64 b := by rw [h]
end Go.Abs
namespace Go.Abs
theorem b_ht {A B : Prop} {c : Bool} (h : c = true) (hA : A) : brW c A B := by rw [h]; exact hA
theorem b_hf {A B : Prop} {c : Bool} (h : c = false) (hB : B) : brW c A B := by rw [h]; exact hB
theorem b_hnt {A B : Prop} {c : Bool} (h : c = true) (hB : B) : brW (!c) A B := by rw [h]; exact hB
theorem b_hnf {A B : Prop} {c : Bool} (h : c = false) (hA : A) : brW (!c) A B := by rw [h]; exact hA
theorem g_ht {A B : Bool → Prop} {c b : Bool} (h : c = true) (hk : grW true A B b) : grW c A B b := by rw [h]; exact hk
theorem g_hf {A B : Bool → Prop} {c b : Bool} (h : c = false) (hk : grW false A B b) : grW c A B b := by rw [h]; exact hk
theorem g_hnt {A B : Bool → Prop} {c b : Bool} (h : c = true) (hk : grW false A B b) : grW (!c) A B b := by rw [h]; exact hk
theorem g_hnf {A B : Bool → Prop} {c b : Bool} (h : c = false) (hk : grW true A B b) : grW (!c) A B b := by rw [h]; exact hk
theorem g_hd {A B : Bool → Prop} {p : Prop} [Decidable p] {b : Bool} (h : p) (hk : grW true A B b) : grW (decide p) A B b := by rw [decide_eq_true h]; exact hk
theorem g_hnd {A B : Bool → Prop} {p : Prop} [Decidable p] {b : Bool} (h : ¬ p) (hk : grW false A B b) : grW (decide p) A B b := by rw [decide_eq_false h]; exact hk
end Go.Abs
namespace Go.Abs
variable {P : Program}
theorem SubL.nil : SubL [] [] := trivial
theorem SubL.cons {a b : AV} {r s : List AV} (h : Sub a b) (hr : SubL r s) : SubL (a :: r) (b :: s) := ⟨h, hr⟩
/-- A call of a function of pure data, at arguments of which more is known than it asks. -/
theorem ACall.wval {f : Nat} {args0 args args' : List AV} {σ : Sig} {v v' : AV} {d : Nat} {Q : AV → Sig → Prop} (hw : SubL args args') (h : Fn0 P f args0 (fun a => a = v)) (ha : args0 = renL [] args') (hv : ren [] v = v') (hQ : Q v' σ) : ACall P f args σ d Q :=
  ACall.weak (fun _ _ hr => SubL.rel hw hr) (ACall.val h ha hv hQ)
end Go.Abs
namespace Go.Abs
theorem b_nb {A B : Prop} {c : Bool} (h1 : c = false → A) (h2 : c = true → B) : brW (!c) A B := by
  cases c
  · exact h1 rfl
  · exact h2 rfl
theorem g_nbt {A B : Bool → Prop} {c : Bool} (h1 : c = false → A true) (h2 : c = true → B false) : grW (!c) A B true := by
  cases c
  · exact h1 rfl
  · exact h2 rfl
theorem g_nbf {A B : Bool → Prop} {c : Bool} (h1 : c = false → B true) (h2 : c = true → A false) : grW (!c) A B false := by
  cases c
  · exact h1 rfl
  · exact h2 rfl
end Go.Abs
namespace Go.Abs
variable {P : Program}
theorem w_frzR {Q : Post} {e : Nat → AV} {σ : Sig} {t i g : Nat} {c : List AV} (hx : e t = .ref i g 0) (hσ : σ i = (g, .row c)) (hs : c.all AV.scal = true) (hk : Q .nor (upd (frzE i g c e) t (.pin (normL c))) (frzS i g c σ)) : awp P (.frz (.t t)) Q e σ := by
  have he : frzE i g c e t = .pin (normL c) := by simp [frzE, hx, frzA]
  rw [← upd_same he] at hk
  show frzW (e t) e σ _
  rw [hx]; show (match σ i with | (g', .row c) => g = g' ∧ c.all AV.scal = true ∧ Q .nor (frzE i g c e) (frzS i g c σ) | _ => False)
  rw [hσ]; exact ⟨rfl, hs, hk⟩
theorem chunk1 : ∀ (xs : List Int), chunk 1 xs.length (normL (xs.map (AV.int .i64))) = iR xs
  | [] => rfl
  | x :: xs => by
    have := chunk1 xs
    simp only [List.length_cons, List.map_cons, normL, chunk, List.map_cons]
    simp only [normL] at this
    rw [show List.drop 1 (AV.norm (AV.int .i64 x) :: List.map AV.norm (List.map (AV.int .i64) xs)) = List.map AV.norm (List.map (AV.int .i64) xs) from rfl, this]
    rfl
theorem w_frzI {Q : Post} {e : Nat → AV} {σ : Sig} {t i g n : Nat} {xs : List Int} (hx : e t = .msl i g n 1) (hσ : σ i = (g, .row (xs.map (AV.int .i64)))) (hn : xs.length = n) (hk : Q .nor (upd (frzE i g (xs.map (AV.int .i64)) e) t (.slc 1 (iR xs) .non)) (frzS i g (xs.map (AV.int .i64)) σ)) : awp P (.frz (.t t)) Q e σ := by
  subst hn
  have he : frzE i g (xs.map (AV.int .i64)) e t = .slc 1 (iR xs) .non := by simp [frzE, hx, frzA, chunk1]
  rw [← upd_same he] at hk
  show frzW (e t) e σ _
  rw [hx]; show (match σ i with | (g', .row c) => g = g' ∧ c.all AV.scal = true ∧ Q .nor (frzE i g c e) (frzS i g c σ) | _ => False)
  rw [hσ]; exact ⟨rfl, by simp [AV.scal], hk⟩
theorem setL_one {α : Type} (c : List α) (k : Nat) (x : α) : setL c k [x] = c.set k x := rfl
theorem w_stI {K : (Nat → AV) → Sig → Prop} {e : Nat → AV} {σ : Sig} {x v : IOpd} {r : List IStep} {i g off : Nat} {a : Int} {xs : List Int} (hx : x.ev e = .ref i g off) (hv : v.ev e = .int .i64 a) (hσ : σ i = (g, .row (xs.map (AV.int .i64)))) (ho : off < xs.length)
    (hk : stepsW P r K e (upd σ i (g, .row ((xs.set off a).map (AV.int .i64))))) : stepsW P (⟨none, none, .st 1 x v⟩ :: r) K e σ := by
  refine w_det0 (p := g = g ∧ 1 = 1 ∧ off + 1 ≤ (xs.map (AV.int .i64)).length) (v := .junk) (σ' := upd σ i (g, .row (setL (xs.map (AV.int .i64)) off [.int .i64 a]))) (fun _ => ?_) ⟨rfl, rfl, by simp; omega⟩ ?_
  · show stO 1 σ (v.ev e) (x.ev e) = _
    rw [hx, hv]
    simp only [stO, cellsO, hσ]
  · rw [setL_one, ← List.map_set]; exact hk
theorem w_mksI {K : (Nat → AV) → Sig → Prop} {e : Nat → AV} {σ : Sig} {d : Nat} {l : IOpd} {r : List IStep} {n : Nat} (hl : l.ev e = .int .i64 n) (hn : n ≤ 1000000)
    (hk : ∀ g, stepsW P r K (upd e d (.msl d g n 1)) (newS σ d g ((List.replicate n (0 : Int)).map (AV.int .i64)))) : stepsW P (⟨some d, none, .mks 1 8 [.int .i64 0] l l⟩ :: r) K e σ := by
  refine w_det (p := 0 ≤ (n : Int) ∧ (n : Int) = n ∧ (n : Int) * 8 ≤ 140737488355328 ∧ (n : Int) ≤ 9223372036854775807) (v := fun g => .msl d g n 1) (σ' := fun g => newS σ d g (List.replicate n [AV.int .i64 0]).flatten) (fun g => ?_) ⟨by omega, rfl, by omega, by omega⟩ fun g => ?_
  · show (match l.ev e, l.ev e with
      | .int _ n, .int _ c => some (0 ≤ n ∧ c = n ∧ n * (8 : Nat) ≤ 140737488355328 ∧ n ≤ 9223372036854775807, AV.msl d g n.toNat 1, newS σ d g (List.replicate n.toNat [AV.int .i64 0]).flatten)
      | _, _ => none) = _
    rw [hl]; rfl
  · have : ∀ n : Nat, (List.replicate n [AV.int .i64 0]).flatten = (List.replicate n (0 : Int)).map (AV.int .i64) := by
      intro n
      induction n with
      | zero => rfl
      | succ n ih => simp [List.replicate_succ, ih]
    rw [this]; exact hk g
/-- A call of the yield function. -/
theorem w_yield {K : (Nat → AV) → Sig → Prop} {e : Nat → AV} {σ : Sig} {d l : Nat} {x : IOpd} {args : List IOpd} {av y : List AV} {rest : List (List AV)} {r : List IStep} (hx : x.ev e = .clo (.yield l) [] []) (h : evO e args = some av)
    (hσ : σ YS = (0, .yld l (some (y :: rest)))) (hy : stripL av = y) (hk : ∀ b : Bool, stepsW P r K (upd e d (.bool b)) (upd σ YS (0, .yld l (yNext rest b)))) : stepsW P (⟨some d, none, .callV x args⟩ :: r) K e σ := by
  show argW (evO e args) _
  rw [h]; show callVW P (x.ev e) _ _ _ _
  rw [hx]
  show (match σ YS with | (0, .yld l' (some (x :: rest))) => l' = l ∧ stripL av = x ∧ ∀ b : Bool, contS e (some d) (stepsW P r K) (.bool b) (upd σ YS (0, .yld l (yNext rest b))) | _ => False)
  rw [hσ]; exact ⟨rfl, hy, hk⟩
def rndK {α β : Type} (kS : List Nat) (σ0 : Sig) (C : List β → α → Prop) (S : α → List (Nat × (Nat × Res))) (rest : List β) (Q : Post) (e0 : Nat → AV) : Post
  | .nor, _, σ => ∃ y, C rest y ∧ slots (S y) σ ∧ kept kS σ0 σ
  | x, _, σ => Q x e0 σ
theorem q_rnd {α β : Type} {kS : List Nat} {σ0 : Sig} {C : List β → α → Prop} {S : α → List (Nat × (Nat × Res))} {rest : List β} {Q : Post} {e0 e : Nat → AV} {σ : Sig} (y : α) (h1 : C rest y) (h2 : slots (S y) σ) (h3 : kept kS σ0 σ) : rndK kS σ0 C S rest Q e0 .nor e σ := ⟨y, h1, h2, h3⟩
theorem q_rnd_ret {α β : Type} {kS : List Nat} {σ0 : Sig} {C : List β → α → Prop} {S : α → List (Nat × (Nat × Res))} {rest : List β} {Q : Post} {e0 e : Nat → AV} {σ : Sig} (h : Q .ret e0 σ) : rndK kS σ0 C S rest Q e0 .ret e σ := h
theorem q_rnd_ex {α β : Type} {kS : List Nat} {σ0 : Sig} {C : List β → α → Prop} {S : α → List (Nat × (Nat × Res))} {rest : List β} {Q : Post} {e0 e : Nat → AV} {σ : Sig} {i : Nat} (h : Q (.ex i) e0 σ) : rndK kS σ0 C S rest Q e0 (.ex i) e σ := h
theorem q_asg {K : (Nat → AV) → Sig → Prop} {e : Nat → AV} {σ : Sig} (h : K e σ) : asgQ K .nor e σ := h
/-- A range over a function that gives these values. -/
theorem w_rfM {Q : Post} {e : Nat → AV} {σ : Sig} {f : IOpd} {ps : List Nat} {a b : IR} {α β : Type} {g : Nat} {lb : List AV} (enc : β → List AV) (xs : List β) (hf : f.ev e = .clo (.func g) [] lb) (hit : ItC P g (stripL lb) (xs.map enc)) (hlen : ∀ x, (enc x).length = ps.length)
    (kS : List Nat) (C : List β → α → Prop) (S : α → List (Nat × (Nat × Res))) (y0 : α) (hC : C xs y0) (hS : slots (S y0) σ)
    (hr : ∀ x rest y, C (x :: rest) y → ∀ σ', awp P a (asgQ (awp P b (rndK kS σ C S rest Q e))) (setE e ps (enc x)) (updL (S y) (keepL kS σ σ')))
    (hend : ∀ y, C [] y → ∀ σ', Q .nor e (updL (S y) (keepL kS σ σ'))) : awp P (.rf f ps a b) Q e σ := by
  have refl : ∀ {β : Type} (k : List Nat) (e : Nat → β), kept k e e := by
    intro β k e
    induction k with
    | nil => trivial
    | cons t r ih => exact ⟨rfl, ih⟩
  refine ⟨g, lb, xs.map enc, fun l σ' => ∃ rest y, l = rest.map enc ∧ C rest y ∧ slots (S y) σ' ∧ kept kS σ σ', hf, hit, ?_, ⟨xs, y0, rfl, hC, hS, refl _ _⟩, ?_, ?_⟩
  · intro x hx
    obtain ⟨z, _, rfl⟩ := List.mem_map.1 hx
    exact hlen z
  · rintro x rest σ' _ ⟨l, y, hl, h1, h2, h3⟩
    cases l with
    | nil => cases hl
    | cons z l =>
      simp only [List.map_cons, List.cons.injEq] at hl
      obtain ⟨rfl, rfl⟩ := hl
      have := hr z l y h1 σ'
      rw [keepL_kept h3, updL_slots h2] at this
      refine awp_mono (fun ax e2 σ2 h => ?_) this
      cases ax with
      | nor =>
        refine awp_mono (ir := b) (fun ax e3 σ3 h => ?_) h
        cases ax with
        | nor => obtain ⟨y', k1, k2, k3⟩ := h; exact ⟨l, y', rfl, k1, k2, k3⟩
        | ret => exact h
        | ex j => exact h
      | ret => exact h
      | ex j => exact h
  · rintro σ' ⟨l, y, hl, h1, h2, h3⟩
    cases l with
    | cons z l => cases hl
    | nil =>
      have := hend y h1 σ'
      rw [keepL_kept h3, updL_slots h2] at this
      exact this
end Go.Abs
namespace Go.Abs
variable {P : Program}
def getI (l : List Int) (i : Int) : Int := (l[i.toNat]?).getD 0
theorem getI_of {xs : List Int} {i y : Int} (h : xs[i.toNat]? = some y) : getI xs i = y := by simp [getI, h]
theorem w_ixG {K : (Nat → AV) → Sig → Prop} {e : Nat → AV} {σ : Sig} {xs : List Int} {d : Nat} {t : Tag} {x i : IOpd} {r : List IStep} {k : IntKind} {n : Int} (hx : x.ev e = .slc 1 (iR xs) t) (hi : i.ev e = .int k n) (h : 0 ≤ n ∧ n < xs.length)
    (hk : stepsW P r K (upd e d (.pin [.int .i64 (getI xs n)])) σ) : stepsW P (⟨some d, none, .ixA 1 x i⟩ :: r) K e σ :=
  w_ixM hx hi h fun y hy => by rw [getI_of hy] at hk; exact hk
end Go.Abs
namespace Go.Abs
variable {P : Program}
theorem acall_id {f : Nat} {args : List AV} {σ : Sig} {d : Nat} {Q : AV → Sig → Prop} (h : ACall P f args σ d Q) : ACall P f args σ d Q := h
/-- A guarded watch. -/
theorem w_g0 {K : (Nat → AV) → Sig → Prop} {e : Nat → AV} {σ : Sig} {g : Nat} {b c : Bool} {op : IOp} {r : List IStep} (h : e g = .bool c)
    (hk : grW c (fun c => stepsW P (⟨none, none, op⟩ :: r) K (upd e g (.bool c)) σ) (fun c => stepsW P r K (upd e g (.bool c)) σ) b) :
    stepsW P (⟨none, some (g, b), op⟩ :: r) K e σ := by
  have he := upd_same h
  show guardW (e g) b _ _
  rw [h]
  cases c <;> cases b <;> simp only [grW, ← he] at hk <;> exact hk
theorem w_gu0 {K : (Nat → AV) → Sig → Prop} {e : Nat → AV} {σ : Sig} {g : Nat} {b : Bool} {op : IOp} {r : List IStep} (h : e g = .tup []) (hk : stepsW P r K e σ) :
    stepsW P (⟨none, some (g, b), op⟩ :: r) K e σ := by
  show guardW (e g) b _ _
  rw [h]; exact hk
theorem g_hdn {A B : Bool → Prop} {p : Prop} [Decidable p] {b : Bool} (h : p) (hk : grW false A B b) : grW (!decide p) A B b := by rw [decide_eq_true h]; exact hk
theorem g_hndn {A B : Bool → Prop} {p : Prop} [Decidable p] {b : Bool} (h : ¬ p) (hk : grW true A B b) : grW (!decide p) A B b := by rw [decide_eq_false h]; exact hk
end Go.Abs
namespace Go.Abs
theorem b_nT {A B : Prop} (h : B) : brW (!true) A B := h
theorem b_nF {A B : Prop} (h : A) : brW (!false) A B := h
theorem g_nT {A B : Bool → Prop} {b : Bool} (h : grW false A B b) : grW (!true) A B b := h
theorem g_nF {A B : Bool → Prop} {b : Bool} (h : grW true A B b) : grW (!false) A B b := h
/-- Two orders. -/
theorem w_alt {P : Program} {Q : Post} {e : Nat → AV} {σ : Sig} {a b : IR} (h1 : awp P a Q e σ) (h2 : awp P b Q e σ) : awp P (.alt a b) Q e σ := ⟨h1, h2⟩
/-- A goal, and what is enough for it. -/
class Rd (g : Prop) (a : outParam Prop) : Prop where
  p : a → g
/-- A goal in two cases. -/
class Rt (g : Prop) (p q a b : outParam Prop) : Prop where
  p : (p → a) → (q → b) → g
section
variable {P : Program} {Q : Post} {K : (Nat → AV) → Sig → Prop} {e : Nat → AV} {σ : Sig}
instance {l : List IStep} : Rd (awp P (.ops l) Q e σ) (stepsW P l (Q .nor) e σ) := ⟨w_ops⟩
instance : Rd (stepsW P [] K e σ) (K e σ) := ⟨w_nil⟩
instance {a b : IR} : Rd (awp P (.seq a b) Q e σ) (awp P a (seqQ (awp P b Q) Q) e σ) := ⟨w_seq⟩
instance : Rd (seqQ K Q .nor e σ) (K e σ) := ⟨q_seq⟩
instance {i : Nat} {b : IR} : Rd (awp P (.blk i b) Q e σ) (awp P b (blkQ i Q) e σ) := ⟨w_blk⟩
instance : Rd (awp P .ret Q e σ) (Q .ret e σ) := ⟨w_ret⟩
instance : Rd (awp P .skip Q e σ) (Q .nor e σ) := ⟨w_skip⟩
instance {i : Nat} : Rd (awp P (.exit i) Q e σ) (Q (.ex i) e σ) := ⟨w_exit⟩
instance {b : IR} : Rd (awp P (.scope b) Q e σ) (awp P b Q e σ) := ⟨w_scope⟩
instance {A B : Prop} : Rd (brW true A B) A := ⟨b_t⟩
instance {A B : Prop} : Rd (brW false A B) B := ⟨b_f⟩
instance {A B : Bool → Prop} : Rd (grW true A B true) (A true) := ⟨g_tt⟩
instance {A B : Bool → Prop} : Rd (grW true A B false) (B true) := ⟨g_tf⟩
instance {A B : Bool → Prop} : Rd (grW false A B true) (B false) := ⟨g_ft⟩
instance {A B : Bool → Prop} : Rd (grW false A B false) (A false) := ⟨g_ff⟩
instance {A B : Prop} : Rd (brW (!true) A B) B := ⟨b_nT⟩
instance {A B : Prop} : Rd (brW (!false) A B) A := ⟨b_nF⟩
instance {A B : Bool → Prop} {b : Bool} : Rd (grW (!true) A B b) (grW false A B b) := ⟨g_nT⟩
instance {A B : Bool → Prop} {b : Bool} : Rd (grW (!false) A B b) (grW true A B b) := ⟨g_nF⟩
instance {i : Nat} : Rd (seqQ K Q (.ex i) e σ) (Q (.ex i) e σ) := ⟨q_seq_ex⟩
instance : Rd (seqQ K Q .ret e σ) (Q .ret e σ) := ⟨q_seq_ret⟩
instance {i : Nat} : Rd (blkQ i Q .nor e σ) (Q .nor e σ) := ⟨q_blk⟩
instance {i : Nat} : Rd (blkQ i Q .ret e σ) (Q .ret e σ) := ⟨q_blk_ret⟩
instance {i : Nat} : Rd (blkQ i Q (.ex i) e σ) (Q .nor e σ) := ⟨q_blk_same⟩
instance {α : Type} {kE kS : List Nat} {e0 : Nat → AV} {σ0 : Sig} {C : α → Prop} {μ : α → Nat} {F : α → List (Nat × AV)} {S : α → List (Nat × Nat × Res)} {n i : Nat} : Rd (loopK kE kS e0 σ0 C μ F S n Q (.ex i) e σ) (Q (.ex i) e σ) := ⟨q_loop_ex⟩
instance {α : Type} {kE kS : List Nat} {e0 : Nat → AV} {σ0 : Sig} {C : α → Prop} {μ : α → Nat} {F : α → List (Nat × AV)} {S : α → List (Nat × Nat × Res)} {n : Nat} : Rd (loopK kE kS e0 σ0 C μ F S n Q .ret e σ) (Q .ret e σ) := ⟨q_loop_ret⟩
instance {d : Nat} {v : AV} : Rd (contS e (some d) K v σ) (K (upd e d v) σ) := ⟨w_cont⟩
instance {v : AV} : Rd (contS e none K v σ) (K e σ) := ⟨w_cont0⟩
instance : Rd (asgQ K .nor e σ) (K e σ) := ⟨q_asg⟩
instance {α β : Type} {kS : List Nat} {σ0 : Sig} {C : List β → α → Prop} {S : α → List (Nat × (Nat × Res))} {rest : List β} {e0 : Nat → AV} : Rd (rndK kS σ0 C S rest Q e0 .ret e σ) (Q .ret e0 σ) := ⟨q_rnd_ret⟩
instance {α β : Type} {kS : List Nat} {σ0 : Sig} {C : List β → α → Prop} {S : α → List (Nat × (Nat × Res))} {rest : List β} {e0 : Nat → AV} {i : Nat} : Rd (rndK kS σ0 C S rest Q e0 (.ex i) e σ) (Q (.ex i) e0 σ) := ⟨q_rnd_ex⟩
instance {A B p : Prop} [Decidable p] : Rt (brW (decide p) A B) p (¬ p) A B := ⟨b_d⟩
instance {A B p : Prop} [Decidable p] : Rt (brW (!decide p) A B) (¬ p) p A B := ⟨b_n⟩
instance {A B : Bool → Prop} {p : Prop} [Decidable p] : Rt (grW (decide p) A B true) p (¬ p) (A true) (B false) := ⟨g_dt⟩
instance {A B : Bool → Prop} {p : Prop} [Decidable p] : Rt (grW (decide p) A B false) p (¬ p) (B true) (A false) := ⟨g_df⟩
instance {A B : Bool → Prop} {p : Prop} [Decidable p] : Rt (grW (!decide p) A B true) (¬ p) p (A true) (B false) := ⟨g_nt⟩
instance {A B : Bool → Prop} {p : Prop} [Decidable p] : Rt (grW (!decide p) A B false) (¬ p) p (B true) (A false) := ⟨g_nf⟩
instance (priority := low) {A B : Prop} {c : Bool} : Rt (brW (!c) A B) (c = false) (c = true) A B := ⟨b_nb⟩
instance (priority := low) {A B : Bool → Prop} {c : Bool} : Rt (grW (!c) A B true) (c = false) (c = true) (A true) (B false) := ⟨g_nbt⟩
instance (priority := low) {A B : Bool → Prop} {c : Bool} : Rt (grW (!c) A B false) (c = false) (c = true) (B true) (A false) := ⟨g_nbf⟩
instance (priority := 10) {A B : Prop} {c : Bool} : Rt (brW c A B) (c = true) (c = false) A B := ⟨b_b⟩
instance (priority := 10) {A B : Bool → Prop} {c : Bool} : Rt (grW c A B true) (c = true) (c = false) (A true) (B false) := ⟨g_bt⟩
instance (priority := 10) {A B : Bool → Prop} {c : Bool} : Rt (grW c A B false) (c = true) (c = false) (B true) (A false) := ⟨g_bf⟩
/-- A side condition. -/
theorem sd {p : Prop} (h : p := by ((repeat' (with_reducible (first | exact trivial | apply And.intro))) <;> first | (with_reducible rfl) | omega | (unfold inI; omega) | (exact Nat.le_of_ble_eq_true rfl) | (simp; done) | (simp; omega) | (simp at *; omega) | assumption | rfl)) : p := h
theorem zI {α : Type} {f : α → List AV} {l : List α} {d sz : Nat} {t : Tag} {x i : IOpd} {r : List IStep} {k : IntKind} {n : Int} (hk : ∀ y, l[n.toNat]? = some y → stepsW P r K (upd e d (.pin (f y))) σ) (hx : x.ev e = .slc sz (l.map f) t := by with_unfolding_all exact rfl) (hi : i.ev e = .int k n := by with_unfolding_all exact rfl) (h : 0 ≤ n ∧ n < l.length := by with_unfolding_all exact sd) : stepsW P (⟨some d, none, .ixA sz x i⟩ :: r) K e σ := w_ixM hx hi h hk
theorem zL {α : Type} {f : α → List AV} {l : List α} {d sz : Nat} {t : Tag} {x : IOpd} {r : List IStep} (hk : stepsW P r K (upd e d (.int .i64 l.length)) σ) (hx : x.ev e = .slc sz (l.map f) t := by with_unfolding_all exact rfl) : stepsW P (⟨some d, none, .len false x⟩ :: r) K e σ := w_lenM hx hk
theorem zS {α : Type} {f : α → List AV} {l : List α} {d sz : Nat} {t : Tag} {x : IOpd} {lo hi : Option IOpd} {a b : Int} {r : List IStep} (hk : stepsW P r K (upd e d (.slc sz (((l.drop a.toNat).take (b - a).toNat).map f) .non)) σ) (hx : x.ev e = .slc sz (l.map f) t := by with_unfolding_all exact rfl) (ha : boundO e 0 lo = some a := by with_unfolding_all exact rfl) (hb : boundO e l.length hi = some b := by with_unfolding_all exact rfl) (h : 0 ≤ a ∧ a ≤ b ∧ b ≤ l.length := by with_unfolding_all exact sd) : stepsW P (⟨some d, none, .slS sz x lo hi none⟩ :: r) K e σ := w_slM hx ha hb h hk
theorem zA {σ' : Sig} {d sz bytes i : Nat} {x y : IOpd} {r : List IStep} {p q : Prop} {es ys zs : List (List AV)} (hk : ∀ g, stepsW P r K (upd e d (.slc sz zs (.own i g))) (newS σ' i g [])) (hx : baseO sz σ (x.ev e) = some (p, es, σ') := by with_unfolding_all exact rfl) (hy : rowsO sz (y.ev e) = some (q, ys) := by with_unfolding_all exact rfl)
    (hz : es ++ ys = zs := by with_unfolding_all (first | exact app_one (z := Guest.mk _ _ _ _ _) rfl | exact app_one (z := Dish.mk _ _ _) rfl | exact app_one (z := Rule.mk _ _ _ _) rfl | exact app_one (z := Bond.mk _ _ _) rfl | exact app_one rfl | exact app_map | exact app_nil | exact rfl)) (hp : p ∧ q := by with_unfolding_all exact sd) (hb : zs.length * bytes ≤ 140737488355328 := by with_unfolding_all exact sd) : stepsW P (⟨some d, none, .app sz bytes x y i⟩ :: r) K e σ := w_appS hx hy hz hp hb hk
theorem zV {d : Nat} {op : IOp} {r : List IStep} {p : Prop} {v : AV} (hk : stepsW P r K (upd e d v) σ) (h : valO op e σ = some (p, v) := by with_unfolding_all exact rfl) (hp : p := by with_unfolding_all exact sd) : stepsW P (⟨some d, none, op⟩ :: r) K e σ := w_val h hp hk
theorem zC {c : IOpd} {a b : IR} {t : Bool} (hk : brW t (awp P a Q e σ) (awp P b Q e σ)) (h : c.ev e = .bool t := by with_unfolding_all exact rfl) : awp P (.cnd c a b) Q e σ := w_c h hk
theorem zG {d g : Nat} {b c : Bool} {op : IOp} {r : List IStep} (hk : grW c (fun c => stepsW P (⟨some d, none, op⟩ :: r) K (upd e g (.bool c)) σ) (fun c => stepsW P r K (upd (upd e g (.bool c)) d (.tup [])) σ) b) (h : e g = .bool c := by with_unfolding_all exact rfl) : stepsW P (⟨some d, some (g, b), op⟩ :: r) K e σ := w_g h hk
theorem zU {d g : Nat} {b : Bool} {op : IOp} {r : List IStep} (hk : stepsW P r K (upd e d (.tup [])) σ) (h : e g = .tup [] := by with_unfolding_all exact rfl) : stepsW P (⟨some d, some (g, b), op⟩ :: r) K e σ := w_gu h hk
theorem zG0 {g : Nat} {b c : Bool} {op : IOp} {r : List IStep} (hk : grW c (fun c => stepsW P (⟨none, none, op⟩ :: r) K (upd e g (.bool c)) σ) (fun c => stepsW P r K (upd e g (.bool c)) σ) b) (h : e g = .bool c := by with_unfolding_all exact rfl) : stepsW P (⟨none, some (g, b), op⟩ :: r) K e σ := w_g0 h hk
theorem zU0 {g : Nat} {b : Bool} {op : IOp} {r : List IStep} (hk : stepsW P r K e σ) (h : e g = .tup [] := by with_unfolding_all exact rfl) : stepsW P (⟨none, some (g, b), op⟩ :: r) K e σ := w_gu0 h hk
theorem zF {d f : Nat} {args : List IOpd} {l : List AV} {r : List IStep} (hk : ACall P f l σ d (contS e (some d) (stepsW P r K))) (h : evO e args = some l := by with_unfolding_all exact rfl) : stepsW P (⟨some d, none, .callF f args⟩ :: r) K e σ := w_call h hk
theorem zF0 {f : Nat} {args : List IOpd} {l : List AV} {r : List IStep} (hk : ACall P f l σ 0 (contS e none (stepsW P r K))) (h : evO e args = some l := by with_unfolding_all exact rfl) : stepsW P (⟨none, none, .callF f args⟩ :: r) K e σ := w_call0 h hk
theorem zX {d f : Nat} {x : IOpd} {args : List IOpd} {l a b : List AV} {r : List IStep} (hk : ACall P f (a ++ l ++ b) σ d (contS e (some d) (stepsW P r K))) (hx : x.ev e = .clo (.func f) a b := by with_unfolding_all exact rfl) (h : evO e args = some l := by with_unfolding_all exact rfl) : stepsW P (⟨some d, none, .callV x args⟩ :: r) K e σ := w_callV hx h hk
theorem zX0 {f : Nat} {x : IOpd} {args : List IOpd} {l a b : List AV} {r : List IStep} (hk : ACall P f (a ++ l ++ b) σ 0 (contS e none (stepsW P r K))) (hx : x.ev e = .clo (.func f) a b := by with_unfolding_all exact rfl) (h : evO e args = some l := by with_unfolding_all exact rfl) : stepsW P (⟨none, none, .callV x args⟩ :: r) K e σ := w_callV0 hx h hk
theorem zD {d : Nat} {op : IOp} {r : List IStep} {p : Prop} {v : Nat → AV} {σ' : Nat → Sig} (hk : ∀ g, stepsW P r K (upd e d (v g)) (σ' g)) (h : ∀ g, effO d op e σ g = some (p, v g, σ' g) := by with_unfolding_all exact fun _ => rfl) (hp : p := by with_unfolding_all exact sd) : stepsW P (⟨some d, none, op⟩ :: r) K e σ := w_det h hp hk
theorem zD0 {op : IOp} {r : List IStep} {p : Prop} {v : AV} {σ' : Sig} (hk : stepsW P r K e σ') (h : ∀ g, effO 0 op e σ g = some (p, v, σ') := by with_unfolding_all exact fun _ => rfl) (hp : p := by with_unfolding_all exact sd) : stepsW P (⟨none, none, op⟩ :: r) K e σ := w_det0 h hp hk
theorem zN {i j : Nat} (hk : Q (.ex j) e σ) (h : Nat.beq j i = false := by with_unfolding_all exact rfl) : blkQ i Q (.ex j) e σ := q_blk_ne h hk
theorem z1 {A B p : Prop} [Decidable p] (hA : A) (hp : p := by first | omega | with_reducible rfl) : brW (decide p) A B := b_dt hp hA
theorem z2 {A B p : Prop} [Decidable p] (hA : B) (hp : ¬ p := by omega) : brW (decide p) A B := b_df hp hA
theorem z3 {A B p : Prop} [Decidable p] (hA : B) (hp : p := by first | omega | with_reducible rfl) : brW (!decide p) A B := b_nt hp hA
theorem z4 {A B p : Prop} [Decidable p] (hA : A) (hp : ¬ p := by omega) : brW (!decide p) A B := b_nf hp hA
theorem z5 {A B : Prop} {c : Bool} (hA : A) (h : c = true := by assumption) : brW c A B := b_ht h hA
theorem z6 {A B : Prop} {c : Bool} (hA : B) (h : c = false := by assumption) : brW c A B := b_hf h hA
theorem z7 {A B : Prop} {c : Bool} (hA : B) (h : c = true := by assumption) : brW (!c) A B := b_hnt h hA
theorem z8 {A B : Prop} {c : Bool} (hA : A) (h : c = false := by assumption) : brW (!c) A B := b_hnf h hA
theorem y1 {A B : Bool → Prop} {c b : Bool} (hk : grW true A B b) (h : c = true := by assumption) : grW c A B b := g_ht h hk
theorem y2 {A B : Bool → Prop} {c b : Bool} (hk : grW false A B b) (h : c = false := by assumption) : grW c A B b := g_hf h hk
theorem y3 {A B : Bool → Prop} {c b : Bool} (hk : grW false A B b) (h : c = true := by assumption) : grW (!c) A B b := g_hnt h hk
theorem y4 {A B : Bool → Prop} {c b : Bool} (hk : grW true A B b) (h : c = false := by assumption) : grW (!c) A B b := g_hnf h hk
theorem y5 {A B : Bool → Prop} {p : Prop} [Decidable p] {b : Bool} (hk : grW true A B b) (h : p := by first | omega | with_reducible rfl) : grW (decide p) A B b := g_hd h hk
theorem y6 {A B : Bool → Prop} {p : Prop} [Decidable p] {b : Bool} (hk : grW false A B b) (h : ¬ p := by omega) : grW (decide p) A B b := g_hnd h hk
theorem y7 {A B : Bool → Prop} {p : Prop} [Decidable p] {b : Bool} (hk : grW false A B b) (h : p := by first | omega | with_reducible rfl) : grW (!decide p) A B b := g_hdn h hk
theorem y8 {A B : Bool → Prop} {p : Prop} [Decidable p] {b : Bool} (hk : grW true A B b) (h : ¬ p := by omega) : grW (!decide p) A B b := g_hndn h hk
theorem zE {R : AV → Sig → Prop} {res : List (Nat × Option (Nat × Bool))} {p : Prop} {l : List AV} (hR : R (untag (tupV l)) σ) (h : resV e σ res = some (p, l) := by with_unfolding_all exact rfl) (hp : p := by with_unfolding_all exact sd) : EndS res (fun a s => ∃ a', Sub a a' ∧ R a' s) .ret e σ := q_ends h hp hR
theorem zE0 {R : AV → Sig → Prop} {res : List (Nat × Option (Nat × Bool))} {p : Prop} {l : List AV} (hR : R (untag (tupV l)) σ) (h : resV e σ res = some (p, l) := by with_unfolding_all exact rfl) (hp : p := by with_unfolding_all exact sd) : EndS res (fun a s => ∃ a', Sub a a' ∧ R a' s) .nor e σ := q_endn h hp hR
theorem zO {R : AV → Sig → Prop} {res : List (Nat × Option (Nat × Bool))} {p : Prop} {l : List AV} (hR : R (tupV l) σ) (h : resV e σ res = some (p, l) := by with_unfolding_all exact rfl) (hp : p := by with_unfolding_all exact sd) : EndS res (fun a s => ∃ a', Sub a a' ∧ R a' s) .ret e σ := q_endo h hp hR
theorem zQ {α : Type} {kE kS : List Nat} {e0 : Nat → AV} {σ0 : Sig} {C : α → Prop} {μ : α → Nat} {F : α → List (Nat × AV)} {S : α → List (Nat × Nat × Res)} {n : Nat} (y : α) (h1 : C y) (h2 : μ y < n) (h3 : slots (F y) e := by exact (by repeat' (first | exact slots_nil | apply slots_cons | rfl | (rw [map_snoc]; rfl) | (rw [len_snoc]; rfl) | (rw [hS]; rfl) | (rw [hS, map_snoc]; rfl) | (refine int_eq ?_; (try dsimp only); omega) | (refine congrArg AV.bool ?_; simp_all; done)))) (h4 : slots (S y) σ := by exact (by repeat' (first | exact slots_nil | apply slots_cons | rfl | (rw [map_snoc]; rfl) | (rw [len_snoc]; rfl) | (rw [hS]; rfl) | (rw [hS, map_snoc]; rfl) | (refine int_eq ?_; (try dsimp only); omega) | (refine congrArg AV.bool ?_; simp_all; done)))) (h5 : kept kE e0 e := by exact (by repeat' (first | exact kept_nil | apply kept_cons | rfl))) (h6 : kept kS σ0 σ := by exact (by repeat' (first | exact kept_nil | apply kept_cons | rfl))) : loopK kE kS e0 σ0 C μ F S n Q .nor e σ := q_loop y h1 h2 h3 h4 h5 h6
theorem zQi {d l : Nat} {x : IOpd} {args : List IOpd} {av y : List AV} {rest : List (List AV)} {r : List IStep} (hk : ∀ b, stepsW P r K (upd e d (.bool b)) (upd σ YS (0, .yld l (yNext rest b)))) (hx : x.ev e = .clo (.yield l) [] [] := by with_unfolding_all exact rfl) (h : evO e args = some av := by with_unfolding_all exact rfl) (hσ : σ YS = (0, .yld l (some (y :: rest))) := by with_unfolding_all exact rfl) (hy : stripL av = y := by with_unfolding_all exact rfl) : stepsW P (⟨some d, none, .callV x args⟩ :: r) K e σ := w_yield hx h hσ hy hk
end
end Go.Abs
namespace Go.Abs
open Go.Proofs
/-- slices.Index[[]int,int] -/
def ir128 : IFn :=
  ⟨19, [(4, none)], (.seq (.ops [⟨(some 4), none, (.mov (.k (.int .i64 0)))⟩])
  (.seq (.seq (.ops [⟨(some 6), none, (.mov (.t 0))⟩,
    ⟨(some 7), none, (.len false (.t 6))⟩,
    ⟨(some 8), none, (.mov (.k (.int .i64 0)))⟩])
  (.blk 0 (.loop (.seq (.ops [⟨(some 9), none, (.bin .lss (.t 8) (.t 7))⟩])
      (.seq (.cnd (.t 9)
        .skip
        (.exit 0))
      (.seq (.blk 1 (.seq (.ops [⟨(some 10), none, (.mov (.t 8))⟩,
          ⟨(some 5), none, (.mov (.t 10))⟩])
        (.seq (.ops [⟨(some 11), none, (.mov (.t 1))⟩,
          ⟨(some 12), none, (.mov (.t 0))⟩,
          ⟨(some 13), none, (.mov (.t 5))⟩,
          ⟨(some 14), none, (.ixA 1 (.t 12) (.t 13))⟩,
          ⟨(some 15), none, (.ld 1 false (.t 14))⟩,
          ⟨(some 16), none, (.bin .eql (.t 11) (.t 15))⟩])
        (.cnd (.t 16)
          (.seq (.ops [⟨(some 17), none, (.mov (.t 5))⟩,
            ⟨(some 4), none, (.mov (.t 17))⟩])
          .ret)
          .skip))))
      (.ops [⟨(some 18), none, (.bin .add (.t 8) (.k (.int .i64 1)))⟩,
        ⟨(some 8), none, (.mov (.t 18))⟩])))))))
  (.seq (.ops [⟨(some 4), none, (.mov (.k (.int .i64 (-1))))⟩])
  .ret)))⟩
def hint128 (P : Program) : Hint := {}
/-- slices.Contains[[]int,int] -/
def ir107 : IFn :=
  ⟨9, [(4, none)], (.seq (.ops [⟨(some 4), none, (.mov (.k (.bool false)))⟩])
  (.seq (.ops [⟨(some 5), none, (.mov (.t 0))⟩,
    ⟨(some 6), none, (.mov (.t 1))⟩,
    ⟨(some 7), none, (.callF 128 [(.t 5), (.t 6)])⟩,
    ⟨(some 8), none, (.bin .geq (.t 7) (.k (.int .i64 0)))⟩,
    ⟨(some 4), none, (.mov (.t 8))⟩])
  .ret))⟩
def hint107 (P : Program) : Hint := {}
def idxF' (g : Int) : Nat → List Int → Int
  | _, [] => -1
  | s, x :: r => if x = g then s else idxF' g (s + 1) r
/-- The place of a number in a list; -1 if there is none. -/
abbrev idxI (l : List Int) (g : Int) : Int := idxF' g 0 l
theorem idxF'_bd (g : Int) : ∀ (s : Nat) (l : List Int), idxF' g s l = -1 ∨ (s ≤ idxF' g s l ∧ idxF' g s l < s + l.length)
  | s, [] => .inl rfl
  | s, x :: r => by
    simp only [idxF', List.length_cons]
    split
    · right; omega
    · have := idxF'_bd g (s + 1) r; omega
theorem index_c (l : List Int) (g : Int) (hl : l.length < 1000000) : Fn0 Try.prog 128 [.slc 1 (iR l) .non, .int .i64 g] (fun v => v = .int .i64 (idxI l g)) := by
  refine RawC.walk (H := hint128 Try.prog) ir128 Try.func128 rfl rfl rfl ?_
  unfold ir128
  repeat' (first
    | with_reducible (first | refine Rd.p ?_ | refine w_alt ?_ ?_ | refine zE ?_ | refine zE0 ?_)
    | with_reducible (first | refine zI fun y hy => ?_ | refine zL ?_ | refine zS ?_ | refine zA fun _ => ?_ | refine zV ?_ | refine zC ?_ | refine zG ?_ | refine zU ?_ | refine zG0 ?_ | refine zU0 ?_ | refine zF ?_)
    | with_reducible (first | refine zX ?_ | refine zD fun _ => ?_ | refine zD0 ?_ | refine zN ?_ | refine zF0 ?_ | refine zX0 ?_ | refine z1 ?_ | refine z2 ?_ | refine z3 ?_ | refine z4 ?_ | refine z5 ?_ | refine z6 ?_ | refine z7 ?_ | refine z8 ?_ | refine y1 ?_ | refine y2 ?_ | refine y3 ?_ | refine y4 ?_ | refine y5 ?_ | refine y6 ?_ | refine y7 ?_ | refine y8 ?_ | refine Rt.p (fun _ => ?_) fun _ => ?_)
    | ((with_reducible apply w_ixM); (focus exact rfl); (focus exact rfl); case' hk => intro y hy) | ((with_reducible (first | apply w_val | apply q_ends)); (focus exact rfl)))
  refine w_loopK [0, 1, 7] [] (fun x : List Int × List Int => l = x.1 ++ x.2 ∧ idxI l g = idxF' g x.1.length x.2) (fun x => x.2.length) (fun x => [(8, .int .i64 x.1.length)]) (fun _ => []) ([], l) ⟨rfl, rfl⟩ ⟨rfl, trivial⟩ trivial ?_
  rintro ⟨pre, post⟩ ⟨hl, hb⟩ e σ
  dsimp only at hl hb ⊢
  have hlen := congrArg List.length hl
  cases post with
  | nil =>
    simp only [List.append_nil, List.length_append, List.length_nil] at hlen
    repeat' (first
      | with_reducible (first | refine Rd.p ?_ | refine w_alt ?_ ?_ | refine zE ?_ | refine zE0 ?_)
      | with_reducible (first | refine zI fun y hy => ?_ | refine zL ?_ | refine zS ?_ | refine zA fun _ => ?_ | refine zV ?_ | refine zC ?_ | refine zG ?_ | refine zU ?_ | refine zG0 ?_ | refine zU0 ?_ | refine zF ?_)
      | with_reducible (first | refine zX ?_ | refine zD fun _ => ?_ | refine zD0 ?_ | refine zN ?_ | refine zF0 ?_ | refine zX0 ?_ | refine z1 ?_ | refine z2 ?_ | refine z3 ?_ | refine z4 ?_ | refine z5 ?_ | refine z6 ?_ | refine z7 ?_ | refine z8 ?_ | refine y1 ?_ | refine y2 ?_ | refine y3 ?_ | refine y4 ?_ | refine y5 ?_ | refine y6 ?_ | refine y7 ?_ | refine y8 ?_ | refine Rt.p (fun _ => ?_) fun _ => ?_)
      | ((with_reducible apply w_ixM); (focus exact rfl); (focus exact rfl); case' hk => intro y hy) | ((with_reducible (first | apply w_val | apply q_ends)); (focus exact rfl)))
    rw [hb]; rfl
  | cons x post =>
    simp only [List.length_append, List.length_cons] at hlen
    simp only [idxF'] at hb
    repeat' (first
      | with_reducible (first | refine Rd.p ?_ | refine w_alt ?_ ?_ | refine zE ?_ | refine zE0 ?_)
      | (refine w_ixP hl rfl rfl ?_)
      | with_reducible (first | refine zI fun y hy => ?_ | refine zL ?_ | refine zS ?_ | refine zA fun _ => ?_ | refine zV ?_ | refine zC ?_ | refine zG ?_ | refine zU ?_ | refine zG0 ?_ | refine zU0 ?_ | refine zF ?_)
      | with_reducible (first | refine zX ?_ | refine zD fun _ => ?_ | refine zD0 ?_ | refine zN ?_ | refine zF0 ?_ | refine zX0 ?_ | refine z1 ?_ | refine z2 ?_ | refine z3 ?_ | refine z4 ?_ | refine z5 ?_ | refine z6 ?_ | refine z7 ?_ | refine z8 ?_ | refine y1 ?_ | refine y2 ?_ | refine y3 ?_ | refine y4 ?_ | refine y5 ?_ | refine y6 ?_ | refine y7 ?_ | refine y8 ?_ | refine Rt.p (fun _ => ?_) fun _ => ?_)
      | ((with_reducible apply w_ixM); (focus exact rfl); (focus exact rfl); case' hk => intro y hy) | ((with_reducible (first | apply w_val | apply q_ends)); (focus exact rfl)))
    · rename_i h
      rw [if_pos h.symm] at hb
      rw [hb]; rfl
    · rename_i h
      rw [if_neg (fun h' => h h'.symm)] at hb
      refine zQ (pre ++ [x], post) ?_ ?_
      · exact ⟨by rw [hl]; simp, by rw [hb, len_snoc]⟩
      · simp
theorem contains_c (l : List Int) (g : Int) (hl : l.length < 1000000) : Fn0 Try.prog 107 [.slc 1 (iR l) .non, .int .i64 g] (fun v => v = .bool (decide (0 ≤ idxI l g))) := by
  refine RawC.walk (H := hint107 Try.prog) ir107 Try.func107 rfl rfl rfl ?_
  unfold ir107
  repeat' (first
    | with_reducible (first | refine Rd.p ?_ | refine w_alt ?_ ?_ | refine zE ?_ | refine zE0 ?_)
    | with_reducible (first | refine zI fun y hy => ?_ | refine zL ?_ | refine zS ?_ | refine zA fun _ => ?_ | refine zV ?_ | refine zC ?_ | refine zG ?_ | refine zU ?_ | refine zG0 ?_ | refine zU0 ?_ | refine zF ?_)
    | ((with_reducible refine acall_id ?_); refine ACall.val (index_c l g hl) rfl rfl ?_)
    | with_reducible (first | refine zX ?_ | refine zD fun _ => ?_ | refine zD0 ?_ | refine zN ?_ | refine zF0 ?_ | refine zX0 ?_ | refine z1 ?_ | refine z2 ?_ | refine z3 ?_ | refine z4 ?_ | refine z5 ?_ | refine z6 ?_ | refine z7 ?_ | refine z8 ?_ | refine y1 ?_ | refine y2 ?_ | refine y3 ?_ | refine y4 ?_ | refine y5 ?_ | refine y6 ?_ | refine y7 ?_ | refine y8 ?_ | refine Rt.p (fun _ => ?_) fun _ => ?_)
    | ((with_reducible apply w_ixM); (focus exact rfl); (focus exact rfl); case' hk => intro y hy) | ((with_reducible (first | apply w_val | apply q_ends)); (focus exact rfl)))
  rfl
end Go.Abs
namespace Go.Abs
open Go.Proofs
/-- aloeswood/aloeswoodkit.Eq -/
def ir40 : IFn :=
  ⟨26, [(4, none)], (.seq (.ops [⟨(some 4), none, (.mov (.k (.bool false)))⟩])
  (.seq (.seq (.ops [⟨(some 6), none, (.mov (.t 0))⟩,
    ⟨(some 7), none, (.len false (.t 6))⟩,
    ⟨(some 8), none, (.mov (.t 1))⟩,
    ⟨(some 9), none, (.len false (.t 8))⟩,
    ⟨(some 10), none, (.bin .neq (.t 7) (.t 9))⟩])
  (.cnd (.t 10)
    (.seq (.ops [⟨(some 4), none, (.mov (.k (.bool false)))⟩])
    .ret)
    .skip))
  (.seq (.seq (.ops [⟨(some 5), none, (.mov (.k (.int .i64 0)))⟩])
  (.blk 0 (.loop (.seq (.seq (.ops [⟨(some 11), none, (.mov (.t 5))⟩,
        ⟨(some 12), none, (.mov (.t 0))⟩,
        ⟨(some 13), none, (.len false (.t 12))⟩,
        ⟨(some 14), none, (.bin .lss (.t 11) (.t 13))⟩])
      (.cnd (.t 14)
        .skip
        (.exit 0)))
      (.seq (.blk 1 (.seq (.ops [⟨(some 17), none, (.mov (.t 0))⟩,
          ⟨(some 18), none, (.mov (.t 5))⟩,
          ⟨(some 19), none, (.ixA 1 (.t 17) (.t 18))⟩,
          ⟨(some 20), none, (.ld 1 false (.t 19))⟩,
          ⟨(some 21), none, (.mov (.t 1))⟩,
          ⟨(some 22), none, (.mov (.t 5))⟩,
          ⟨(some 23), none, (.ixA 1 (.t 21) (.t 22))⟩,
          ⟨(some 24), none, (.ld 1 false (.t 23))⟩,
          ⟨(some 25), none, (.bin .neq (.t 20) (.t 24))⟩])
        (.cnd (.t 25)
          (.seq (.ops [⟨(some 4), none, (.mov (.k (.bool false)))⟩])
          .ret)
          .skip)))
      (.ops [⟨(some 15), none, (.mov (.t 5))⟩,
        ⟨(some 16), none, (.bin .add (.t 15) (.k (.int .i64 1)))⟩,
        ⟨(some 5), none, (.mov (.t 16))⟩]))))))
  (.seq (.ops [⟨(some 4), none, (.mov (.k (.bool true)))⟩])
  .ret))))⟩
def hint40 (P : Program) : Hint := {}
/-- slices.Clone[[]int,int] -/
def ir119 : IFn :=
  ⟨8, [(2, none)], (.seq (.ops [⟨(some 2), none, (.nil 1 2)⟩])
  (.seq (.seq (.ops [⟨(some 3), none, (.mov (.t 0))⟩,
    ⟨(some 4), none, (.eqn .slice false (.t 3) (.k .nsl))⟩])
  (.cnd (.t 4)
    (.seq (.ops [⟨(some 2), none, (.nil 1 2)⟩])
    .ret)
    .skip))
  (.seq (.ops [⟨(some 5), none, (.bsl 1 [] [])⟩,
    ⟨(some 6), none, (.mov (.t 0))⟩,
    ⟨(some 7), none, (.app 1 8 (.t 5) (.t 6) 2)⟩,
    ⟨(some 2), none, (.mov (.t 7))⟩])
  .ret)))⟩
def hint119 (P : Program) : Hint := { site := [(7, 2)], nils := [(2, 1)], frz := [], mve := [], wr := [] }
theorem eq_c (a b : List Int) (h : a.length < 2 ^ 62) : Fn0 Try.prog 40 [.slc 1 (iR a) .non, .slc 1 (iR b) .non] (fun v => v = .bool (decide (a = b))) := by
  refine RawC.walk (H := hint40 Try.prog) ir40 Try.func40 rfl rfl rfl ?_
  unfold ir40
  repeat' (first
    | with_reducible (first | refine Rd.p ?_ | refine w_alt ?_ ?_ | refine zE ?_ | refine zE0 ?_)
    | with_reducible (first | refine zI fun y hy => ?_ | refine zL ?_ | refine zS ?_ | refine zA fun _ => ?_ | refine zV ?_ | refine zC ?_ | refine zG ?_ | refine zU ?_ | refine zG0 ?_ | refine zU0 ?_ | refine zF ?_)
    | with_reducible (first | refine zX ?_ | refine zD fun _ => ?_ | refine zD0 ?_ | refine zN ?_ | refine zF0 ?_ | refine zX0 ?_ | refine z1 ?_ | refine z2 ?_ | refine z3 ?_ | refine z4 ?_ | refine z5 ?_ | refine z6 ?_ | refine z7 ?_ | refine z8 ?_ | refine y1 ?_ | refine y2 ?_ | refine y3 ?_ | refine y4 ?_ | refine y5 ?_ | refine y6 ?_ | refine y7 ?_ | refine y8 ?_ | refine Rt.p (fun _ => ?_) fun _ => ?_)
    | ((with_reducible apply w_ixM); (focus exact rfl); (focus exact rfl); case' hk => intro y hy) | ((with_reducible (first | apply w_val | apply q_ends)); (focus exact rfl)))
  · rename_i h1
    exact congrArg AV.bool (by simp; intro h; rw [h] at h1; exact h1 rfl)
  rename_i h1
  refine w_loopK [0, 1] [] (fun x : List Int × List Int × List Int => a = x.1 ++ x.2.1 ∧ b = x.1 ++ x.2.2 ∧ x.2.1.length = x.2.2.length) (fun x => x.2.1.length) (fun x => [(5, .int .i64 x.1.length)]) (fun _ => []) ([], a, b) ⟨rfl, rfl, by dsimp only; omega⟩ ⟨rfl, trivial⟩ trivial ?_
  rintro ⟨pre, pa, pb⟩ ⟨ha, hb, hl⟩ e σ
  dsimp only at ha hb hl ⊢
  have hlen := congrArg List.length ha
  cases pa with
  | nil =>
    cases pb with
    | cons _ _ => simp at hl
    | nil =>
      simp only [List.append_nil, List.length_append, List.length_nil] at hlen
      repeat' (first
        | with_reducible (first | refine Rd.p ?_ | refine w_alt ?_ ?_ | refine zE ?_ | refine zE0 ?_)
        | with_reducible (first | refine zI fun y hy => ?_ | refine zL ?_ | refine zS ?_ | refine zA fun _ => ?_ | refine zV ?_ | refine zC ?_ | refine zG ?_ | refine zU ?_ | refine zG0 ?_ | refine zU0 ?_ | refine zF ?_)
        | with_reducible (first | refine zX ?_ | refine zD fun _ => ?_ | refine zD0 ?_ | refine zN ?_ | refine zF0 ?_ | refine zX0 ?_ | refine z1 ?_ | refine z2 ?_ | refine z3 ?_ | refine z4 ?_ | refine z5 ?_ | refine z6 ?_ | refine z7 ?_ | refine z8 ?_ | refine y1 ?_ | refine y2 ?_ | refine y3 ?_ | refine y4 ?_ | refine y5 ?_ | refine y6 ?_ | refine y7 ?_ | refine y8 ?_ | refine Rt.p (fun _ => ?_) fun _ => ?_)
        | ((with_reducible apply w_ixM); (focus exact rfl); (focus exact rfl); case' hk => intro y hy) | ((with_reducible (first | apply w_val | apply q_ends)); (focus exact rfl)))
      exact congrArg AV.bool (by simp [ha, hb])
  | cons x pa =>
    cases pb with
    | nil => simp at hl
    | cons y pb =>
      simp only [List.length_append, List.length_cons] at hlen
      repeat' (first
        | with_reducible (first | refine Rd.p ?_ | refine w_alt ?_ ?_ | refine zE ?_ | refine zE0 ?_)
        | (first | refine w_ixP ha rfl rfl ?_ | refine w_ixP hb rfl rfl ?_)
        | with_reducible (first | refine zI fun y hy => ?_ | refine zL ?_ | refine zS ?_ | refine zA fun _ => ?_ | refine zV ?_ | refine zC ?_ | refine zG ?_ | refine zU ?_ | refine zG0 ?_ | refine zU0 ?_ | refine zF ?_)
        | with_reducible (first | refine zX ?_ | refine zD fun _ => ?_ | refine zD0 ?_ | refine zN ?_ | refine zF0 ?_ | refine zX0 ?_ | refine z1 ?_ | refine z2 ?_ | refine z3 ?_ | refine z4 ?_ | refine z5 ?_ | refine z6 ?_ | refine z7 ?_ | refine z8 ?_ | refine y1 ?_ | refine y2 ?_ | refine y3 ?_ | refine y4 ?_ | refine y5 ?_ | refine y6 ?_ | refine y7 ?_ | refine y8 ?_ | refine Rt.p (fun _ => ?_) fun _ => ?_)
        | ((with_reducible apply w_ixM); (focus exact rfl); (focus exact rfl); case' hk => intro y hy) | ((with_reducible (first | apply w_val | apply q_ends)); (focus exact rfl)))
      · rename_i h2
        exact congrArg AV.bool (by simp [ha, hb]; intro h; exact absurd h h2)
      · rename_i h2
        obtain rfl := Decidable.not_not.1 h2
        refine zQ (pre ++ [x], pa, pb) ?_ ?_
        · exact ⟨by rw [ha]; simp, by rw [hb]; simp, by simpa using hl⟩
        · simp
theorem cloneO_c (l : List Int) (a : AV) (ha : NowV a l) (h : l.length < 2 ^ 40) : RawC Try.prog 119 [a] (sg []) (SR (fun g : Nat => fun v => v = .slc 1 (iR l) (.own 2 g)) (fun g => [(2, (g, .row []))])) := by
  rcases ha with ⟨rfl, rfl⟩ | ⟨rfl, hne⟩
  · refine RawC.walk (H := hint119 Try.prog) ir119 Try.func119 rfl rfl rfl ?_
    unfold ir119
    repeat' (first
      | with_reducible (first | refine Rd.p ?_ | refine w_alt ?_ ?_ | refine zO ?_ | refine zE0 ?_)
      | with_reducible (first | refine zI fun y hy => ?_ | refine zL ?_ | refine zS ?_ | refine zA fun _ => ?_ | refine zV ?_ | refine zC ?_ | refine zG ?_ | refine zU ?_ | refine zG0 ?_ | refine zU0 ?_ | refine zF ?_)
      | with_reducible (first | refine zX ?_ | refine zD fun _ => ?_ | refine zD0 ?_ | refine zN ?_ | refine zF0 ?_ | refine zX0 ?_ | refine z1 ?_ | refine z2 ?_ | refine z3 ?_ | refine z4 ?_ | refine z5 ?_ | refine z6 ?_ | refine z7 ?_ | refine z8 ?_ | refine y1 ?_ | refine y2 ?_ | refine y3 ?_ | refine y4 ?_ | refine y5 ?_ | refine y6 ?_ | refine y7 ?_ | refine y8 ?_ | refine Rt.p (fun _ => ?_) fun _ => ?_)
      | ((with_reducible apply w_ixM); (focus exact rfl); (focus exact rfl); case' hk => intro y hy) | ((with_reducible (first | apply w_val | apply q_ends)); (focus exact rfl)))
    exact ⟨_, rfl, rfl, trivial⟩
  · have hne' : (iR l) ≠ [] := by simpa using hne
    have hL : (iR l).length = l.length := by simp
    refine RawC.walk (H := hint119 Try.prog) ir119 Try.func119 rfl rfl rfl ?_
    unfold ir119
    repeat' (first
      | with_reducible (first | refine Rd.p ?_ | refine w_alt ?_ ?_ | refine zO ?_ | refine zE0 ?_)
      | with_reducible (first | refine zI fun y hy => ?_ | refine zL ?_ | refine zS ?_ | refine zA fun _ => ?_ | refine zV ?_ | refine zC ?_ | refine zG ?_ | refine zU ?_ | refine zG0 ?_ | refine zU0 ?_ | refine zF ?_)
      | with_reducible (first | refine zX ?_ | refine zD fun _ => ?_ | refine zD0 ?_ | refine zN ?_ | refine zF0 ?_ | refine zX0 ?_ | refine z1 ?_ | refine z2 ?_ | refine z3 ?_ | refine z4 ?_ | refine z5 ?_ | refine z6 ?_ | refine z7 ?_ | refine z8 ?_ | refine y1 ?_ | refine y2 ?_ | refine y3 ?_ | refine y4 ?_ | refine y5 ?_ | refine y6 ?_ | refine y7 ?_ | refine y8 ?_ | refine Rt.p (fun _ => ?_) fun _ => ?_)
      | ((with_reducible apply w_ixM); (focus exact rfl); (focus exact rfl); case' hk => intro y hy) | ((with_reducible (first | apply w_val | apply q_ends)); (focus exact rfl)))
    exact ⟨_, rfl, rfl, trivial⟩
end Go.Abs
namespace Go.Abs
open Go.Proofs
section
variable {P : Program}
theorem ACall.liftYS {f : Nat} {args0 args : List AV} {l0 : List (Nat × (Nat × Res))} {σ : Sig} {α : Type} {V : α → AV → Prop} {L : α → List (Nat × (Nat × Res))} {d : Nat} {Q : AV → Sig → Prop} (h : RawC P f args0 (sg l0) (SR V L)) (ρi : List (Nat × Nat)) (s : Option Nat) (hr : renOK (outs d s ++ ρi) = true)
    {l : Nat} {xs : Option (List (List AV))} (hy : σ YS = (0, .yld l xs)) (ha : args0 = renL (flipL ρi) args) (h0 : l0 = pull (flipL ρi) σ ρi ++ [(YS, (0, .yld l xs))]) (hl : liveL σ ρi) (hc : ∀ x, covers (L x) (outs d s ++ ρi) = true)
    (Y' : α → Nat × Res) (hcy : ∀ x, lkS YS (L x) = some (Y' x)) (hQ : ∀ x av, V x av → Q (ren (outs d s ++ ρi) av) (pushV (outs d s ++ ρi) (L x) (outs d s ++ ρi) (upd σ YS (Y' x)))) : ACall P f args σ d Q :=
  ACall.liftY h ρi s hr hy ha h0 hl fun av σ0' ⟨x, hV, hs⟩ => by rw [lkS_slots hs (hcy x), push_slots hs (hc x)]; exact hQ x av hV
end
/-- The guests from s on that do not sit yet. -/
def candF (now : List Int) : Nat → Nat → List Int
  | 0, _ => []
  | m + 1, s => if 0 ≤ idxI now s then candF now m (s + 1) else (s : Int) :: candF now m (s + 1)
/-- All orders of n guests that begin so, k being missing. -/
def permsK (n : Nat) : Nat → List Int → List (List Int)
  | 0, now => [now]
  | k + 1, now => (candF now n 0).flatMap fun g => permsK n k (now ++ [g])
theorem candF_mem {now : List Int} : ∀ {m s : Nat} {x : Int}, x ∈ candF now m s → (s : Int) ≤ x ∧ x < s + m ∧ idxI now x < 0
  | m + 1, s, x, h => by
    simp only [candF] at h
    split at h
    · have := candF_mem h; omega
    · rename_i hs
      rcases List.mem_cons.1 h with rfl | h
      · exact ⟨by omega, by omega, by omega⟩
      · have := candF_mem h; omega
theorem permsK_mem {n : Nat} : ∀ {k : Nat} {now m : List Int}, m ∈ permsK n k now → m.length = now.length + k ∧ ((∀ i ∈ now, 0 ≤ i ∧ i < n) → ∀ i ∈ m, 0 ≤ i ∧ i < n)
  | 0, b, m, h => by simp [permsK] at h; subst h; exact ⟨rfl, id⟩
  | k + 1, b, m, h => by
    simp only [permsK, List.mem_flatMap] at h
    obtain ⟨i, hi, h⟩ := h
    obtain ⟨h1, h2⟩ := permsK_mem h
    simp at h1
    refine ⟨by omega, fun hb => h2 fun x hx => ?_⟩
    rcases List.mem_append.1 hx with hx | hx
    · exact hb x hx
    · simp at hx; subst hx
      have := candF_mem hi
      omega
abbrev perms (n : Nat) : List (List Int) := permsK n n []
end Go.Abs
namespace Go.Abs
theorem candF_len (now : List Int) : ∀ (m s : Nat), (candF now m s).length ≤ m
  | 0, s => by simp [candF]
  | m + 1, s => by
    have := candF_len now m (s + 1)
    rw [candF]; split <;> (try simp only [List.length_cons]) <;> omega
theorem permsK_len (n : Nat) : ∀ (k : Nat) (now : List Int), (permsK n k now).length ≤ n ^ k
  | 0, now => by simp [permsK]
  | k + 1, now => by
    rw [permsK, List.length_flatMap]
    have h : ∀ x ∈ (candF now n 0).map (fun g => (permsK n k (now ++ [g])).length), x ≤ n ^ k := by
      intro x hx
      obtain ⟨g, _, rfl⟩ := List.mem_map.1 hx
      exact permsK_len n k _
    have hs : ∀ (l : List Nat) (b : Nat), (∀ x ∈ l, x ≤ b) → l.sum ≤ l.length * b := by
      intro l b
      induction l with
      | nil => simp
      | cons y l ih =>
        intro hl
        have := ih fun x hx => hl x (by simp [hx])
        have := hl y (by simp)
        simp only [List.sum_cons, List.length_cons, Nat.succ_mul]; omega
    have h2 := hs _ _ h
    rw [List.length_map] at h2
    have h3 := candF_len now n 0
    calc _ ≤ (candF now n 0).length * n ^ k := h2
      _ ≤ n * n ^ k := Nat.mul_le_mul_right _ h3
      _ = n ^ (k + 1) := by rw [Nat.pow_succ, Nat.mul_comm]
end Go.Abs
namespace Go.Abs
theorem idxF'_neg (g : Int) : ∀ (s : Nat) (l : List Int), idxF' g s l < 0 ↔ g ∉ l
  | s, [] => by simp [idxF']
  | s, x :: r => by
    simp only [idxF', List.mem_cons, not_or]
    split
    · rename_i h
      constructor
      · intro h2; omega
      · intro h2; exact absurd h.symm h2.1
    · rename_i h
      rw [idxF'_neg g (s + 1) r]
      exact ⟨fun h2 => ⟨fun h3 => h h3.symm, h2⟩, fun h2 => h2.2⟩
theorem idx_mem {l : List Int} {g : Int} : 0 ≤ idxI l g ↔ g ∈ l := by
  have := idxF'_neg g 0 l
  have h2 : idxI l g = idxF' g 0 l := rfl
  by_cases h : g ∈ l
  · exact ⟨fun _ => h, fun _ => by have := mt this.1 (fun hc => hc h); omega⟩
  · exact ⟨fun h3 => absurd (this.2 h) (by omega), fun h3 => absurd h3 h⟩
theorem nodup_len : ∀ (n : Nat) (l : List Int), l.Nodup → (∀ x ∈ l, 0 ≤ x ∧ x < n) → l.length ≤ n
  | 0, l, _, h => by
    cases l with
    | nil => simp
    | cons x l => have := h x (by simp); omega
  | n + 1, l, hn, h => by
    by_cases hm : (n : Int) ∈ l
    · have h1 := nodup_len n (l.erase (n : Int)) (hn.erase _) fun x hx => by
        have h2 := (hn.mem_erase_iff).1 hx
        have h3 := h x h2.2
        have := h2.1
        omega
      have := List.length_erase_of_mem hm
      omega
    · have h1 := nodup_len n l hn fun x hx => by
        have h3 := h x hx
        have : x ≠ n := fun e => hm (e ▸ hx)
        omega
      omega
/-- An order of n guests. -/
structure isPerm (n : Nat) (l : List Int) : Prop where
  len : l.length = n
  nd : l.Nodup
  bd : ∀ x ∈ l, 0 ≤ x ∧ x < n
theorem isPerm.all {n : Nat} {l : List Int} (h : isPerm n l) {g : Int} (hg : 0 ≤ g ∧ g < n) : g ∈ l := by
  refine Decidable.byContradiction fun hc => ?_
  have := nodup_len n (g :: l) (List.nodup_cons.2 ⟨hc, h.nd⟩) fun x hx => by
    rcases List.mem_cons.1 hx with rfl | hx
    · exact hg
    · exact h.bd x hx
  have h2 := h.len
  simp at this; omega
theorem permsK_nodup {n : Nat} : ∀ {k : Nat} {now m : List Int}, m ∈ permsK n k now → now.Nodup → m.Nodup
  | 0, now, m, h, hn => by simp [permsK] at h; subst h; exact hn
  | k + 1, now, m, h, hn => by
    simp only [permsK, List.mem_flatMap] at h
    obtain ⟨g, hg, h⟩ := h
    have hc := (candF_mem hg).2.2
    have hm := (idxF'_neg g 0 now).1 hc
    refine permsK_nodup h ?_
    rw [List.nodup_append]
    exact ⟨hn, by simp, fun a ha b hb => by simp at hb; subst hb; exact fun e => hm (e ▸ ha)⟩
theorem perm_of {n : Nat} {m : List Int} (h : m ∈ perms n) : isPerm n m := by
  have h1 := permsK_mem h
  exact ⟨by simpa using h1.1, permsK_nodup h List.nodup_nil, fun x hx => h1.2 (fun i hi => by cases hi) x hx⟩
end Go.Abs
namespace Go.Abs
section
variable {P : Program}
theorem w_ldI {K : (Nat → AV) → Sig → Prop} {e : Nat → AV} {σ : Sig} {x : IOpd} {d : Nat} {r : List IStep} {i g off : Nat} {xs : List Int} (hx : x.ev e = .ref i g off) (hσ : σ i = (g, .row (xs.map (AV.int .i64)))) (ho : off < xs.length)
    (hk : stepsW P r K (upd e d (.int .i64 (xs.getD off 0))) σ) : stepsW P (⟨some d, none, .ld 1 false x⟩ :: r) K e σ := by
  refine w_val (p := g = g ∧ True) (v := .int .i64 (xs.getD off 0)) ?_ ⟨rfl, trivial⟩ hk
  show ldO 1 false σ (x.ev e) = _
  rw [hx]
  simp only [ldO, hσ, partO, List.getElem?_map, List.getElem?_eq_getElem ho, Option.map_some, List.getD_eq_getElem?_getD, Option.getD_some]
  rfl
end
end Go.Abs
namespace Go.Abs
variable {P : Program}
theorem findI (a : Int) : ∀ (l : List Int) (n : Nat), findA .i (.int .i64 a) (l.map (AV.int .i64)) n = some (if a ∈ l then some (n + l.idxOf a) else none)
  | [], n => rfl
  | x :: l, n => by
    have hk : keyEq .i (.int .i64 a) (.int .i64 x) = some (decide (a = x)) := rfl
    rw [List.map_cons, findA, hk]
    by_cases h : a = x
    · subst h; simp
    · rw [decide_eq_false h]
      simp only
      rw [findI a l (n + 1)]
      have hx : ¬ x = a := fun e => h e.symm
      by_cases hm : a ∈ l
      · rw [if_pos hm, if_pos (by simp [hm]), List.idxOf_cons, show (x == a) = false by simp [hx]]
        simp only [cond_false]; congr 2; omega
      · rw [if_neg hm, if_neg (by simp [h, hm])]
/-- A key is put into a set. -/
def insI (l : List Int) (a : Int) : List Int := if a ∈ l then l else l ++ [a]
theorem mem_insI {l : List Int} {a x : Int} : x ∈ insI l a ↔ x ∈ l ∨ x = a := by
  unfold insI
  split
  · rename_i h
    exact ⟨.inl, fun hx => hx.elim id fun e => by rw [e]; exact h⟩
  · simp
abbrev trueL (l : List Int) : List AV := l.map fun _ => AV.bool true
theorem w_mupI {K : (Nat → AV) → Sig → Prop} {e : Nat → AV} {σ : Sig} {m k : IOpd} {r : List IStep} {i h : Nat} {l : List Int} {a : Int} (hm : m.ev e = .map i h) (hσ : σ i = (h, .row [.mpv (l.map (AV.int .i64)) (trueL l)])) (hk : k.ev e = .int .i64 a)
    (hK : stepsW P r K e (upd σ i (h, .row [.mpv ((insI l a).map (AV.int .i64)) (trueL (insI l a))]))) : stepsW P (⟨none, none, .mup .i m k (.k (.bool true))⟩ :: r) K e σ := by
  refine w_det0 (p := h = h) (v := .junk) (σ' := upd σ i (h, .row [.mpv ((insI l a).map (AV.int .i64)) (trueL (insI l a))])) (fun _ => ?_) rfl hK
  show mupO .i σ (k.ev e) (.bool true) (m.ev e) = _
  rw [hm, hk]
  simp only [mupO, mapW, hσ, forceA, findI]
  unfold insI
  by_cases h : a ∈ l
  · rw [if_pos h, if_pos h]
    simp only
    have hset : (trueL l).set (0 + l.idxOf a) (AV.bool true).norm = trueL l := by
      apply List.ext_getElem?
      intro j
      rw [List.getElem?_set]
      split
      · rename_i hj; subst hj
        split
        · rename_i hl
          simp only [trueL, List.length_map] at hl
          simp only [Nat.zero_add] at hl ⊢
          simp [trueL, hl, AV.norm, AV.strip]
        · rename_i hl
          rw [List.getElem?_eq_none (by simpa using hl)]
      · rfl
    rw [hset]
  · rw [if_neg h, if_neg h]
    simp [trueL, AV.norm, AV.strip]
theorem w_nxtE {K : (Nat → AV) → Sig → Prop} {e : Nat → AV} {σ : Sig} {x : IOpd} {d : Nat} {r : List IStep} {i h : Nat} {cur vs : List AV} (hx : x.ev e = .itr i h) (hσ : σ i = (h, .row [.itv cur [] vs])) (hk : stepsW P r K (upd e d (.tup [.bool false])) σ) : stepsW P (⟨some d, none, .nxt x⟩ :: r) K e σ := by
  refine w_det (p := h = h) (v := fun _ => .tup [.bool false]) (σ' := fun _ => σ) (fun g => ?_) rfl fun _ => hk
  show nxtO σ g (x.ev e) = _
  rw [hx]; simp only [nxtO, hσ]
theorem w_nxtC {K : (Nat → AV) → Sig → Prop} {e : Nat → AV} {σ : Sig} {x : IOpd} {d : Nat} {r : List IStep} {α : Type} (f v : α → AV) {l : List α} {i h : Nat} {cur : List AV} (hx : x.ev e = .itr i h) (hσ : σ i = (h, .row [.itv cur (l.map f) (l.map v)])) (hl : l ≠ [])
    (hk : ∀ j a, l[j]? = some a → stepsW P r K (upd e d (.tup [.bool true, f a, v a])) (upd σ i (h, .row [.itv [f a, v a] ((l.eraseIdx j).map f) ((l.eraseIdx j).map v)]))) : stepsW P (⟨some d, none, .nxt x⟩ :: r) K e σ := by
  have hpos : 0 < l.length := by cases l <;> simp at hl ⊢
  have hj : ∀ g, g % l.length < l.length := fun g => Nat.mod_lt _ hpos
  refine w_det (p := h = h) (v := fun g => .tup [.bool true, f (l[g % l.length]'(hj g)), v (l[g % l.length]'(hj g))]) (σ' := fun g => upd σ i (h, .row [.itv [f (l[g % l.length]'(hj g)), v (l[g % l.length]'(hj g))] ((l.eraseIdx (g % l.length)).map f) ((l.eraseIdx (g % l.length)).map v)])) (fun g => ?_) rfl fun g => hk _ _ (List.getElem?_eq_getElem (hj g))
  show nxtO σ g (x.ev e) = _
  rw [hx]
  have hg : ∀ u : α → AV, (l.map u).getD (g % l.length) .junk = u (l[g % l.length]'(hj g)) := fun u => by simp [List.getD_eq_getElem?_getD, hj g]
  cases hl' : l.map f with
  | nil => cases l <;> simp at hl hl'
  | cons a0 ar =>
    simp only [nxtO, hσ, hl']
    rw [← hl', List.length_map, hg, hg, eraseIdx_map, eraseIdx_map]
theorem frzMS_at {i g j h : Nat} {ks vs : List AV} {σ : Sig} (hs : σ j = (h, .row [.map i g])) (hj : j ≠ i) : frzMS i g ks vs σ j = (h, .row [.fmp ks vs]) := by
  simp [frzMS, hj, hs, frzMR, frzML, frzM]
end Go.Abs
namespace Go.Abs
open Go.Proofs
/-- (*aloeswood/aloeswoodkit.Box).turn -/
def ir73 : IFn :=
  ⟨30, [(2, none)], (.seq (.ops [⟨(some 2), none, (.mov (.k (.int .u64 0)))⟩])
  (.seq (.ops [⟨(some 4), none, (.mov (.t 0))⟩,
    ⟨(some 5), none, (.mov (.t 0))⟩,
    ⟨(some 6), none, (.nck (.t 5))⟩,
    ⟨(some 7), none, (.flA 0 (.t 6))⟩,
    ⟨(some 8), none, (.ld 1 false (.t 7))⟩,
    ⟨(some 9), none, (.bin .add (.t 8) (.k (.int .u64 11507291218515648293)))⟩,
    ⟨(some 10), none, (.nck (.t 4))⟩,
    ⟨(some 11), none, (.flA 0 (.t 10))⟩,
    ⟨none, none, (.st 1 (.t 11) (.t 9))⟩])
  (.seq (.ops [⟨(some 12), none, (.mov (.t 0))⟩,
    ⟨(some 13), none, (.nck (.t 12))⟩,
    ⟨(some 14), none, (.flA 0 (.t 13))⟩,
    ⟨(some 15), none, (.ld 1 false (.t 14))⟩,
    ⟨(some 3), none, (.mov (.t 15))⟩])
  (.seq (.ops [⟨(some 16), none, (.mov (.t 3))⟩,
    ⟨(some 17), none, (.mov (.t 3))⟩,
    ⟨(some 18), none, (.bin .shr (.t 17) (.k (.int .u64 32)))⟩,
    ⟨(some 19), none, (.bin .xor (.t 16) (.t 18))⟩,
    ⟨(some 20), none, (.bin .mul (.t 19) (.k (.int .u64 15485907386658061715)))⟩,
    ⟨(some 3), none, (.mov (.t 20))⟩])
  (.seq (.ops [⟨(some 21), none, (.mov (.t 3))⟩,
    ⟨(some 22), none, (.mov (.t 3))⟩,
    ⟨(some 23), none, (.bin .shr (.t 22) (.k (.int .u64 29)))⟩,
    ⟨(some 24), none, (.bin .xor (.t 21) (.t 23))⟩,
    ⟨(some 25), none, (.bin .mul (.t 24) (.k (.int .u64 14029467366897019727)))⟩,
    ⟨(some 3), none, (.mov (.t 25))⟩])
  (.seq (.ops [⟨(some 26), none, (.mov (.t 3))⟩,
    ⟨(some 27), none, (.mov (.t 3))⟩,
    ⟨(some 28), none, (.bin .shr (.t 27) (.k (.int .u64 32)))⟩,
    ⟨(some 29), none, (.bin .xor (.t 26) (.t 28))⟩,
    ⟨(some 2), none, (.mov (.t 29))⟩])
  .ret))))))⟩
def hint73 (P : Program) : Hint := {}
/-- aloeswood/aloeswoodkit.BoxOf -/
def ir17 : IFn :=
  ⟨30, [(2, none)], (.seq (.ops [⟨(some 2), none, (.mov (.k .npt))⟩])
  (.seq (.ops [⟨(some 5), none, (.bld [(.int .u64 0)] [(0, 1, (.k (.int .u64 2685821657736338717)))])⟩,
    ⟨(some 6), none, (.box 1 (.t 5))⟩,
    ⟨(some 3), none, (.mov (.t 6))⟩])
  (.seq (.seq (.ops [⟨(some 4), none, (.mov (.k (.int .i64 0)))⟩])
  (.blk 0 (.loop (.seq (.seq (.ops [⟨(some 7), none, (.mov (.t 4))⟩,
        ⟨(some 8), none, (.mov (.t 0))⟩,
        ⟨(some 9), none, (.len false (.t 8))⟩,
        ⟨(some 10), none, (.bin .lss (.t 7) (.t 9))⟩])
      (.cnd (.t 10)
        .skip
        (.exit 0)))
      (.seq (.blk 1 (.seq (.ops [⟨(some 13), none, (.mov (.t 3))⟩,
          ⟨(some 14), none, (.mov (.t 3))⟩,
          ⟨(some 15), none, (.nck (.t 14))⟩,
          ⟨(some 16), none, (.flA 0 (.t 15))⟩,
          ⟨(some 17), none, (.ld 1 false (.t 16))⟩,
          ⟨(some 18), none, (.mov (.t 0))⟩,
          ⟨(some 19), none, (.mov (.t 4))⟩,
          ⟨(some 20), none, (.ixA 1 (.t 18) (.t 19))⟩,
          ⟨(some 21), none, (.ld 1 false (.t 20))⟩,
          ⟨(some 22), none, (.cvI .u64 (.t 21))⟩,
          ⟨(some 23), none, (.bin .xor (.t 17) (.t 22))⟩,
          ⟨(some 24), none, (.bin .mul (.t 23) (.k (.int .u64 15485907386658061715)))⟩,
          ⟨(some 25), none, (.nck (.t 13))⟩,
          ⟨(some 26), none, (.flA 0 (.t 25))⟩,
          ⟨none, none, (.st 1 (.t 26) (.t 24))⟩])
        (.ops [⟨(some 27), none, (.mov (.t 3))⟩,
          ⟨(some 28), none, (.callF 73 [(.t 27)])⟩])))
      (.ops [⟨(some 11), none, (.mov (.t 4))⟩,
        ⟨(some 12), none, (.bin .add (.t 11) (.k (.int .i64 1)))⟩,
        ⟨(some 4), none, (.mov (.t 12))⟩]))))))
  (.seq (.ops [⟨(some 29), none, (.mov (.t 3))⟩,
    ⟨(some 2), none, (.mov (.t 29))⟩])
  .ret))))⟩
def hint17 (P : Program) : Hint := {}
/-- (*aloeswood/aloeswoodkit.Box).Up -/
def ir20 : IFn :=
  ⟨14, [(4, none)], (.seq (.ops [⟨(some 4), none, (.mov (.k (.int .i64 0)))⟩])
  (.seq (.seq (.ops [⟨(some 5), none, (.mov (.t 1))⟩,
    ⟨(some 6), none, (.bin .lss (.t 5) (.k (.int .i64 2)))⟩])
  (.cnd (.t 6)
    (.seq (.ops [⟨(some 4), none, (.mov (.k (.int .i64 0)))⟩])
    .ret)
    .skip))
  (.seq (.ops [⟨(some 7), none, (.mov (.t 0))⟩,
    ⟨(some 8), none, (.callF 73 [(.t 7)])⟩,
    ⟨(some 9), none, (.bin .shr (.t 8) (.k (.int .u64 1)))⟩,
    ⟨(some 10), none, (.mov (.t 1))⟩,
    ⟨(some 11), none, (.cvI .u64 (.t 10))⟩,
    ⟨(some 12), none, (.bin .rem (.t 9) (.t 11))⟩,
    ⟨(some 13), none, (.cvI .i64 (.t 12))⟩,
    ⟨(some 4), none, (.mov (.t 13))⟩])
  .ret)))⟩
def hint20 (P : Program) : Hint := {}
/-- (*aloeswood/aloeswoodkit.Box).Any -/
def ir74 : IFn :=
  ⟨15, [(6, none)], (.seq (.ops [⟨(some 6), none, (.mov (.k (.int .i64 0)))⟩])
  (.seq (.ops [⟨(some 7), none, (.mov (.t 1))⟩,
    ⟨(some 8), none, (.mov (.t 0))⟩,
    ⟨(some 9), none, (.mov (.t 2))⟩,
    ⟨(some 10), none, (.mov (.t 1))⟩,
    ⟨(some 11), none, (.bin .sub (.t 9) (.t 10))⟩,
    ⟨(some 12), none, (.bin .add (.t 11) (.k (.int .i64 1)))⟩,
    ⟨(some 13), none, (.callF 20 [(.t 8), (.t 12)])⟩,
    ⟨(some 14), none, (.bin .add (.t 7) (.t 13))⟩,
    ⟨(some 6), none, (.mov (.t 14))⟩])
  .ret))⟩
def hint74 (P : Program) : Hint := {}
theorem turn_c (g : Nat) (w : Int) : RawC Try.prog 73 [.ref 1000 g 0] (BoxS g w) (BoxR g fun av => ∃ n, av = .int .u64 n ∧ 0 ≤ n ∧ n < 18446744073709551616) := by
  refine RawC.walk (H := hint73 Try.prog) ir73 Try.func73 rfl rfl rfl ?_
  unfold ir73
  repeat' (first
    | with_reducible (first | refine Rd.p ?_ | refine w_alt ?_ ?_ | refine zE ?_ | refine zE0 ?_)
    | with_reducible (first | refine zI fun y hy => ?_ | refine zL ?_ | refine zS ?_ | refine zA fun _ => ?_ | refine zV ?_ | refine zC ?_ | refine zG ?_ | refine zU ?_ | refine zG0 ?_ | refine zU0 ?_ | refine zF ?_)
    | with_reducible (first | refine zX ?_ | refine zD fun _ => ?_ | refine zD0 ?_ | refine zN ?_ | refine zF0 ?_ | refine zX0 ?_ | refine z1 ?_ | refine z2 ?_ | refine z3 ?_ | refine z4 ?_ | refine z5 ?_ | refine z6 ?_ | refine z7 ?_ | refine z8 ?_ | refine y1 ?_ | refine y2 ?_ | refine y3 ?_ | refine y4 ?_ | refine y5 ?_ | refine y6 ?_ | refine y7 ?_ | refine y8 ?_ | refine Rt.p (fun _ => ?_) fun _ => ?_)
    | ((with_reducible apply w_ixM); (focus exact rfl); (focus exact rfl); case' hk => intro y hy) | ((with_reducible (first | apply w_val | apply q_ends)); (focus exact rfl)))
  exact ⟨_, ⟨_, rfl, (wrap_u64 _).1, (wrap_u64 _).2⟩, rfl⟩
theorem up_mod {a n : Int} (ha : 0 ≤ a) (hn : 2 ≤ n) (hw : IntKind.u64.wrap n = n) : 0 ≤ (a.fdiv (2 ^ min (Int.toNat 1) IntKind.u64.bits)).tmod (IntKind.u64.wrap n) ∧ (a.fdiv (2 ^ min (Int.toNat 1) IntKind.u64.bits)).tmod (IntKind.u64.wrap n) < n := by
  rw [hw]
  have h0 : 0 ≤ a.fdiv (2 ^ min (Int.toNat 1) IntKind.u64.bits) := Int.fdiv_nonneg ha (by decide)
  exact ⟨Int.tmod_nonneg _ h0, Int.tmod_lt_of_pos _ (by omega)⟩
theorem up_c (g : Nat) (w n : Int) (hn : n < 2 ^ 62) : RawC Try.prog 20 [.ref 1000 g 0, .int .i64 n] (BoxS g w) (BoxR g fun av => ∃ k, av = .int .i64 k ∧ 0 ≤ k ∧ (k < n ∨ k = 0)) := by
  by_cases h2 : n < 2
  · refine RawC.walk (H := hint20 Try.prog) ir20 Try.func20 rfl rfl rfl ?_
    unfold ir20
    repeat' (first
      | with_reducible (first | refine Rd.p ?_ | refine w_alt ?_ ?_ | refine zE ?_ | refine zE0 ?_)
      | with_reducible (first | refine zI fun y hy => ?_ | refine zL ?_ | refine zS ?_ | refine zA fun _ => ?_ | refine zV ?_ | refine zC ?_ | refine zG ?_ | refine zU ?_ | refine zG0 ?_ | refine zU0 ?_ | refine zF ?_)
      | with_reducible (first | refine zX ?_ | refine zD fun _ => ?_ | refine zD0 ?_ | refine zN ?_ | refine zF0 ?_ | refine zX0 ?_ | refine z1 ?_ | refine z2 ?_ | refine z3 ?_ | refine z4 ?_ | refine z5 ?_ | refine z6 ?_ | refine z7 ?_ | refine z8 ?_ | refine y1 ?_ | refine y2 ?_ | refine y3 ?_ | refine y4 ?_ | refine y5 ?_ | refine y6 ?_ | refine y7 ?_ | refine y8 ?_ | refine Rt.p (fun _ => ?_) fun _ => ?_)
      | ((with_reducible apply w_ixM); (focus exact rfl); (focus exact rfl); case' hk => intro y hy) | ((with_reducible (first | apply w_val | apply q_ends)); (focus exact rfl)))
    exact ⟨_, ⟨_, rfl, by omega⟩, rfl⟩
  have hw := wrap_u64_id n (by omega) (by omega)
  refine RawC.walk (H := hint20 Try.prog) ir20 Try.func20 rfl rfl rfl ?_
  unfold ir20
  repeat' (first
    | with_reducible (first | refine Rd.p ?_ | refine w_alt ?_ ?_ | refine zE ?_ | refine zE0 ?_)
    | with_reducible (first | refine zI fun y hy => ?_ | refine zL ?_ | refine zS ?_ | refine zA fun _ => ?_)
    | ((with_reducible apply w_ixM); (focus exact rfl); (focus exact rfl); (focus ((repeat' (with_reducible (first | exact trivial | apply And.intro))) <;> (first | (have := up_mod ha (by omega : 2 ≤ n) hw; unfold inI; omega) | exact sd))); case' hk => intro y hy) | ((with_reducible apply w_slM); (focus exact rfl); (focus exact rfl); (focus exact rfl); (focus ((repeat' (with_reducible (first | exact trivial | apply And.intro))) <;> (first | (have := up_mod ha (by omega : 2 ≤ n) hw; unfold inI; omega) | exact sd)))) | ((with_reducible apply w_val); (focus exact rfl); (focus ((repeat' (with_reducible (first | exact trivial | apply And.intro))) <;> (first | (have := up_mod ha (by omega : 2 ≤ n) hw; unfold inI; omega) | exact sd)))) | ((with_reducible apply w_det); (focus exact fun _ => rfl); (focus ((repeat' (with_reducible (first | exact trivial | apply And.intro))) <;> (first | (have := up_mod ha (by omega : 2 ≤ n) hw; unfold inI; omega) | exact sd))); case' hk => intro _) | ((with_reducible apply w_det0); (focus exact fun _ => rfl); (focus ((repeat' (with_reducible (first | exact trivial | apply And.intro))) <;> (first | (have := up_mod ha (by omega : 2 ≤ n) hw; unfold inI; omega) | exact sd)))) | ((with_reducible apply q_ends); (focus exact rfl); (focus ((repeat' (with_reducible (first | exact trivial | apply And.intro))) <;> (first | (have := up_mod ha (by omega : 2 ≤ n) hw; unfold inI; omega) | exact sd))))
    | with_reducible (first | refine zI fun y hy => ?_ | refine zL ?_ | refine zS ?_ | refine zA fun _ => ?_ | refine zV ?_ | refine zC ?_ | refine zG ?_ | refine zU ?_ | refine zG0 ?_ | refine zU0 ?_ | refine zF ?_)
    | ((with_reducible refine acall_id ?_); refine ACall.box (turn_c _ _) rfl rfl rfl ?_; rintro _ _ ⟨_, rfl, ha, _⟩)
    | with_reducible (first | refine zX ?_ | refine zD fun _ => ?_ | refine zD0 ?_ | refine zN ?_ | refine zF0 ?_ | refine zX0 ?_ | refine z1 ?_ | refine z2 ?_ | refine z3 ?_ | refine z4 ?_ | refine z5 ?_ | refine z6 ?_ | refine z7 ?_ | refine z8 ?_ | refine y1 ?_ | refine y2 ?_ | refine y3 ?_ | refine y4 ?_ | refine y5 ?_ | refine y6 ?_ | refine y7 ?_ | refine y8 ?_ | refine Rt.p (fun _ => ?_) fun _ => ?_)
    | ((with_reducible apply w_ixM); (focus exact rfl); (focus exact rfl); case' hk => intro y hy) | ((with_reducible (first | apply w_val | apply q_ends)); (focus exact rfl)))
  have := up_mod ha (by omega : 2 ≤ n) hw
  exact ⟨_, ⟨_, rfl, by omega⟩, rfl⟩
/-- The box gives a number from 0 on, less than n. -/
abbrev ltV (n : Int) (av : AV) : Prop := ∃ k, av = .int .i64 k ∧ 0 ≤ k ∧ k < n
theorem upp_c (g : Nat) (w n : Int) (h0 : 0 < n) (hn : n < 2 ^ 62) : RawC Try.prog 20 [.ref 1000 g 0, .int .i64 n] (BoxS g w) (BoxR g (ltV n)) :=
  (up_c g w n hn).mono fun _ _ ⟨w', ⟨k, h1, h2, h3⟩, h4⟩ => ⟨w', ⟨k, h1, h2, by omega⟩, h4⟩
theorem any_c (g : Nat) (w a b : Int) (h0 : -1000000 < a) (h1 : a < 1000000) (h2 : -1000000 < b) (h3 : b < 1000000) : RawC Try.prog 74 [.ref 1000 g 0, .int .i64 a, .int .i64 b] (BoxS g w) (BoxR g fun av => ∃ k, av = .int .i64 k ∧ a ≤ k ∧ (k ≤ b ∨ k = a)) := by
  refine RawC.walk (H := hint74 Try.prog) ir74 Try.func74 rfl rfl rfl ?_
  unfold ir74
  repeat' (first
    | with_reducible (first | refine Rd.p ?_ | refine w_alt ?_ ?_ | refine zE ?_ | refine zE0 ?_)
    | with_reducible (first | refine zI fun y hy => ?_ | refine zL ?_ | refine zS ?_ | refine zA fun _ => ?_ | refine zV ?_ | refine zC ?_ | refine zG ?_ | refine zU ?_ | refine zG0 ?_ | refine zU0 ?_ | refine zF ?_)
    | ((with_reducible refine acall_id ?_); refine ACall.box (up_c _ _ _ (by omega)) rfl rfl rfl ?_; rintro _ _ ⟨_, rfl, _, _⟩)
    | with_reducible (first | refine zX ?_ | refine zD fun _ => ?_ | refine zD0 ?_ | refine zN ?_ | refine zF0 ?_ | refine zX0 ?_ | refine z1 ?_ | refine z2 ?_ | refine z3 ?_ | refine z4 ?_ | refine z5 ?_ | refine z6 ?_ | refine z7 ?_ | refine z8 ?_ | refine y1 ?_ | refine y2 ?_ | refine y3 ?_ | refine y4 ?_ | refine y5 ?_ | refine y6 ?_ | refine y7 ?_ | refine y8 ?_ | refine Rt.p (fun _ => ?_) fun _ => ?_)
    | ((with_reducible apply w_ixM); (focus exact rfl); (focus exact rfl); case' hk => intro y hy) | ((with_reducible (first | apply w_val | apply q_ends)); (focus exact rfl)))
  exact ⟨_, ⟨_, rfl, by omega⟩, rfl⟩
theorem boxOf_c (l : List Int) (hl : l.length < 2 ^ 62) : RawC Try.prog 17 [.slc 1 (iR l) .non] (sg []) (fun av σ' => ∃ g w, av = .ref 6 g 0 ∧ σ' 6 = (g, .row [.int .u64 w])) := by
  have hL : (iR l).length = l.length := by simp
  refine RawC.walk (H := hint17 Try.prog) ir17 Try.func17 rfl rfl rfl ?_
  unfold ir17
  repeat' (first
    | with_reducible (first | refine Rd.p ?_ | refine w_alt ?_ ?_ | refine zE ?_ | refine zE0 ?_)
    | with_reducible (first | refine zI fun y hy => ?_ | refine zL ?_ | refine zS ?_ | refine zA fun _ => ?_ | refine zV ?_ | refine zC ?_ | refine zG ?_ | refine zU ?_ | refine zG0 ?_ | refine zU0 ?_ | refine zF ?_)
    | with_reducible (first | refine zX ?_ | refine zD fun _ => ?_ | refine zD0 ?_ | refine zN ?_ | refine zF0 ?_ | refine zX0 ?_ | refine z1 ?_ | refine z2 ?_ | refine z3 ?_ | refine z4 ?_ | refine z5 ?_ | refine z6 ?_ | refine z7 ?_ | refine z8 ?_ | refine y1 ?_ | refine y2 ?_ | refine y3 ?_ | refine y4 ?_ | refine y5 ?_ | refine y6 ?_ | refine y7 ?_ | refine y8 ?_ | refine Rt.p (fun _ => ?_) fun _ => ?_)
    | ((with_reducible apply w_ixM); (focus exact rfl); (focus exact rfl); case' hk => intro y hy) | ((with_reducible (first | apply w_val | apply q_ends)); (focus exact rfl)))
  refine w_loopK [0, 3] [] (fun x : Nat × Int => x.1 ≤ l.length) (fun x => l.length - x.1) (fun x => [(4, .int .i64 x.1)]) (fun x => [(6, (_, .row [.int .u64 x.2]))]) (0, _) (Nat.zero_le _) ⟨rfl, trivial⟩ ⟨rfl, trivial⟩ ?_
  rintro ⟨k, w⟩ hk e σ
  dsimp only at hk ⊢
  repeat' (first
    | with_reducible (first | refine Rd.p ?_ | refine w_alt ?_ ?_ | refine zE ?_ | refine zE0 ?_)
    | with_reducible (first | refine zI fun y hy => ?_ | refine zL ?_ | refine zS ?_ | refine zA fun _ => ?_ | refine zV ?_ | refine zC ?_ | refine zG ?_ | refine zU ?_ | refine zG0 ?_ | refine zU0 ?_ | refine zF ?_)
    | ((with_reducible refine acall_id ?_); refine ACall.box (turn_c _ _) rfl rfl rfl ?_; rintro _ _ ⟨_, rfl, _, _⟩)
    | with_reducible (first | refine zX ?_ | refine zD fun _ => ?_ | refine zD0 ?_ | refine zN ?_ | refine zF0 ?_ | refine zX0 ?_ | refine z1 ?_ | refine z2 ?_ | refine z3 ?_ | refine z4 ?_ | refine z5 ?_ | refine z6 ?_ | refine z7 ?_ | refine z8 ?_ | refine y1 ?_ | refine y2 ?_ | refine y3 ?_ | refine y4 ?_ | refine y5 ?_ | refine y6 ?_ | refine y7 ?_ | refine y8 ?_ | refine Rt.p (fun _ => ?_) fun _ => ?_)
    | ((with_reducible apply w_ixM); (focus exact rfl); (focus exact rfl); case' hk => intro y hy) | ((with_reducible (first | apply w_val | apply q_ends)); (focus exact rfl)))
  · simp at *
    exact q_loop (k + 1, _) (by dsimp only; omega) (by dsimp only; omega) ⟨rfl, trivial⟩ ⟨rfl, trivial⟩ ⟨rfl, rfl, trivial⟩ trivial
  · exact ⟨_, _, rfl, rfl⟩
end Go.Abs
namespace Go.Abs
open Go.Proofs
section
variable {P : Program}
theorem w_apmN {K : (Nat → AV) → Sig → Prop} {e : Nat → AV} {σ : Sig} {x y : IOpd} {r : List IStep} {d i : Nat} {a : Int} {t : Tag} (hx : x.ev e = .nsl) (hy : y.ev e = .slc 1 [[.int .i64 a]] t)
    (hk : ∀ g, stepsW P r K (upd e d (.msl i g 1 1)) (newS σ i g ([a].map (AV.int .i64)))) : stepsW P (⟨some d, none, .apm 1 8 x y i⟩ :: r) K e σ := by
  refine w_det (p := True ∧ 1 = 1 ∧ (0 + 1) * 8 ≤ 140737488355328) (v := fun g => .msl i g (0 + 1) 1) (σ' := fun g => newS σ i g ([] ++ [[AV.int .i64 a]].flatten)) (fun g => ?_) ⟨trivial, rfl, by omega⟩ hk
  show (match baseM 1 σ (x.ev e), rowsO 1 (y.ev e) with
    | some (p, n, c, σ'), some (q, ys) => (match ys with
      | [] => some (p ∧ q, x.ev e, σ)
      | _ :: _ => some (p ∧ q ∧ (n + ys.length) * 8 ≤ 140737488355328, AV.msl i g (n + ys.length) 1, newS σ' i g (c ++ ys.flatten)))
    | some (p, n, c, σ'), none => (match rowsM 1 σ (y.ev e) with
      | some (q, m, ys) => some (p ∧ q ∧ (n + m) * 8 ≤ 140737488355328, AV.msl i g (n + m) 1, newS σ' i g (c ++ ys))
      | none => none)
    | _, _ => none) = _
  rw [hx, hy]; rfl
theorem w_apmI {K : (Nat → AV) → Sig → Prop} {e : Nat → AV} {σ : Sig} {x y : IOpd} {r : List IStep} {d i i' g' n : Nat} {a : Int} {xs : List Int} {t : Tag} (hx : x.ev e = .msl i' g' n 1) (hσ : σ i' = (g', .row (xs.map (AV.int .i64)))) (hn : xs.length = n) (hn2 : n ≤ 1000000) (hy : y.ev e = .slc 1 [[.int .i64 a]] t)
    (hk : ∀ g, stepsW P r K (upd e d (.msl i g (n + 1) 1)) (newS (upd σ i' (g', .dead)) i g ((xs ++ [a]).map (AV.int .i64)))) : stepsW P (⟨some d, none, .apm 1 8 x y i⟩ :: r) K e σ := by
  refine w_det (p := (g' = g' ∧ 1 = 1 ∧ (xs.map (AV.int .i64)).length = n * 1) ∧ 1 = 1 ∧ (n + 1) * 8 ≤ 140737488355328) (v := fun g => .msl i g (n + 1) 1) (σ' := fun g => newS (upd σ i' (g', .dead)) i g (xs.map (AV.int .i64) ++ [[AV.int .i64 a]].flatten)) (fun g => ?_) ⟨⟨rfl, rfl, by simp; omega⟩, rfl, by omega⟩ fun g => ?_
  · show (match baseM 1 σ (x.ev e), rowsO 1 (y.ev e) with
      | some (p, n, c, σ'), some (q, ys) => (match ys with
        | [] => some (p ∧ q, x.ev e, σ)
        | _ :: _ => some (p ∧ q ∧ (n + ys.length) * 8 ≤ 140737488355328, AV.msl i g (n + ys.length) 1, newS σ' i g (c ++ ys.flatten)))
      | some (p, n, c, σ'), none => (match rowsM 1 σ (y.ev e) with
        | some (q, m, ys) => some (p ∧ q ∧ (n + m) * 8 ≤ 140737488355328, AV.msl i g (n + m) 1, newS σ' i g (c ++ ys))
        | none => none)
      | _, _ => none) = _
    rw [hx, hy]
    simp only [baseM, hσ, rowsO]; rfl
  · have := hk g
    rw [List.map_append] at this
    exact this
end
theorem isPerm.of_perm {n : Nat} {l l' : List Int} (h : isPerm n l) (hp : List.Perm l' l) : isPerm n l' :=
  ⟨by rw [hp.length_eq, h.len], hp.nodup_iff.2 h.nd, fun x hx => h.bd x (hp.mem_iff.1 hx)⟩
theorem isPerm.snoc {n : Nat} {l : List Int} (h : isPerm n l) : isPerm (n + 1) (l ++ [(n : Int)]) := by
  refine ⟨by simp [h.len], ?_, fun x hx => ?_⟩
  · rw [List.nodup_append]
    exact ⟨h.nd, by simp, fun a ha b hb => by simp at hb; subst hb; have := h.bd a ha; omega⟩
  · rcases List.mem_append.1 hx with hx | hx
    · have := h.bd x hx; omega
    · simp at hx; omega
theorem swap_perm {l : List Int} {i k : Nat} (hi : i < l.length) (hk : k < l.length) : List.Perm ((l.set i (l.getD k 0)).set k (l.getD i 0)) l := by
  have e1 : l.getD k 0 = l[k] := by simp [hk]
  have e2 : l.getD i 0 = l[i] := by simp [hi]
  rw [e1, e2]
  exact List.set_set_perm hi hk
/-- (*aloeswood/aloeswoodkit.Box).Order -/
def ir76 : IFn :=
  ⟨36, [(4, none)], (.seq (.ops [⟨(some 4), none, (.mov (.k .nsl))⟩])
  (.seq (.ops [⟨(some 5), none, (.mov (.k .nsl))⟩])
  (.seq (.seq (.ops [⟨(some 6), none, (.mov (.k (.int .i64 0)))⟩])
  (.blk 0 (.loop (.seq (.seq (.ops [⟨(some 8), none, (.mov (.t 6))⟩,
        ⟨(some 9), none, (.mov (.t 1))⟩,
        ⟨(some 10), none, (.bin .lss (.t 8) (.t 9))⟩])
      (.cnd (.t 10)
        .skip
        (.exit 0)))
      (.seq (.blk 1 (.seq (.ops [⟨(some 13), none, (.mov (.t 0))⟩,
          ⟨(some 14), none, (.mov (.t 6))⟩,
          ⟨(some 15), none, (.bin .add (.t 14) (.k (.int .i64 1)))⟩,
          ⟨(some 16), none, (.callF 20 [(.t 13), (.t 15)])⟩,
          ⟨(some 7), none, (.mov (.t 16))⟩])
        (.seq (.ops [⟨(some 17), none, (.mov (.t 5))⟩,
          ⟨(some 18), none, (.mov (.t 6))⟩,
          ⟨(some 19), none, (.bsl 1 [[(.int .i64 0)]] [(0, (.t 18))])⟩,
          ⟨(some 20), none, (.apm 1 8 (.t 17) (.t 19) 5)⟩,
          ⟨(some 5), none, (.mov (.t 20))⟩])
        (.ops [⟨(some 21), none, (.mov (.t 5))⟩,
          ⟨(some 22), none, (.mov (.t 6))⟩,
          ⟨(some 23), none, (.mov (.t 5))⟩,
          ⟨(some 24), none, (.mov (.t 7))⟩,
          ⟨(some 25), none, (.mov (.t 5))⟩,
          ⟨(some 26), none, (.mov (.t 7))⟩,
          ⟨(some 27), none, (.ixA 1 (.t 25) (.t 26))⟩,
          ⟨(some 28), none, (.ld 1 false (.t 27))⟩,
          ⟨(some 29), none, (.mov (.t 5))⟩,
          ⟨(some 30), none, (.mov (.t 6))⟩,
          ⟨(some 31), none, (.ixA 1 (.t 29) (.t 30))⟩,
          ⟨(some 32), none, (.ld 1 false (.t 31))⟩,
          ⟨(some 33), none, (.ixA 1 (.t 21) (.t 22))⟩,
          ⟨none, none, (.st 1 (.t 33) (.t 28))⟩,
          ⟨(some 34), none, (.ixA 1 (.t 23) (.t 24))⟩,
          ⟨none, none, (.st 1 (.t 34) (.t 32))⟩]))))
      (.ops [⟨(some 11), none, (.mov (.t 6))⟩,
        ⟨(some 12), none, (.bin .add (.t 11) (.k (.int .i64 1)))⟩,
        ⟨(some 6), none, (.mov (.t 12))⟩]))))))
  (.seq (.seq (.frz (.t 5))
  (.ops [⟨(some 35), none, (.mov (.t 5))⟩,
    ⟨(some 4), none, (.mov (.t 35))⟩]))
  .ret))))⟩
def hint76 (P : Program) : Hint := { site := [(20, 5)], nils := [], frz := [(35, 5)], mve := [], wr := [20] }
/-- aloeswood/aloeswoodkit.Ints -/
def ir58 : IFn :=
  ⟨6, [(2, none)], (.seq (.ops [⟨(some 2), none, (.nil 1 2)⟩])
  (.seq (.ops [⟨(some 3), none, (.bsl 1 [] [])⟩,
    ⟨(some 4), none, (.mov (.t 0))⟩,
    ⟨(some 5), none, (.app 1 8 (.t 3) (.t 4) 2)⟩,
    ⟨(some 2), none, (.mov (.t 5))⟩])
  .ret))⟩
def hint58 (P : Program) : Hint := { site := [(5, 2)], nils := [(2, 1)], frz := [], mve := [], wr := [] }
def ordV (xs : List Int) (g : Nat) : AV := match xs with
  | [] => .nsl
  | _ :: _ => .msl 5 g xs.length 1
def ordS (xs : List Int) (g : Nat) : List (Nat × (Nat × Res)) := match xs with
  | [] => []
  | _ :: _ => [(5, (g, .row (xs.map (AV.int .i64))))]
theorem order_c (g : Nat) (w : Int) (n : Nat) (hn : 1 ≤ n ∧ n ≤ 1000) : RawC Try.prog 76 [.ref 1000 g 0, .int .i64 n] (BoxS g w) (BoxR g fun av => ∃ l, av = .slc 1 (iR l) .non ∧ isPerm n l) := by
  refine RawC.walk (H := hint76 Try.prog) ir76 Try.func76 rfl rfl rfl ?_
  unfold ir76
  repeat' (first
    | with_reducible (first | refine Rd.p ?_ | refine w_alt ?_ ?_ | refine zE ?_ | refine zE0 ?_)
    | with_reducible (first | refine zI fun y hy => ?_ | refine zL ?_ | refine zS ?_ | refine zA fun _ => ?_ | refine zV ?_ | refine zC ?_ | refine zG ?_ | refine zU ?_ | refine zG0 ?_ | refine zU0 ?_ | refine zF ?_)
    | with_reducible (first | refine zX ?_ | refine zD fun _ => ?_ | refine zD0 ?_ | refine zN ?_ | refine zF0 ?_ | refine zX0 ?_ | refine z1 ?_ | refine z2 ?_ | refine z3 ?_ | refine z4 ?_ | refine z5 ?_ | refine z6 ?_ | refine z7 ?_ | refine z8 ?_ | refine y1 ?_ | refine y2 ?_ | refine y3 ?_ | refine y4 ?_ | refine y5 ?_ | refine y6 ?_ | refine y7 ?_ | refine y8 ?_ | refine Rt.p (fun _ => ?_) fun _ => ?_)
    | ((with_reducible apply w_ixM); (focus exact rfl); (focus exact rfl); case' hk => intro y hy) | ((with_reducible (first | apply w_val | apply q_ends)); (focus exact rfl)))
  refine w_loopK [0, 1] [] (fun x : List Int × Nat × Int => x.1.length ≤ n ∧ isPerm x.1.length x.1) (fun x => n - x.1.length) (fun x => [(6, .int .i64 x.1.length), (5, ordV x.1 x.2.1)])
    (fun x => [(1000, (g, .row [.int .u64 x.2.2]))] ++ ordS x.1 x.2.1) ([], 0, _) ⟨Nat.zero_le _, ⟨rfl, List.nodup_nil, fun x hx => by cases hx⟩⟩ ⟨rfl, rfl, trivial⟩ (by exact ⟨rfl, trivial⟩) ?_
  rintro ⟨xs, g5, w⟩ ⟨hl, hp⟩ e σ
  dsimp only at hl hp ⊢
  by_cases hlt : xs.length < n
  case neg =>
    cases xs with
    | nil => exfalso; simp at hlt; omega
    | cons x0 xs =>
      repeat' (first
        | with_reducible (first | refine Rd.p ?_ | refine w_alt ?_ ?_ | refine zE ?_ | refine zE0 ?_)
        | with_reducible (first | refine zI fun y hy => ?_ | refine zL ?_ | refine zS ?_ | refine zA fun _ => ?_ | refine zV ?_ | refine zC ?_ | refine zG ?_ | refine zU ?_ | refine zG0 ?_ | refine zU0 ?_ | refine zF ?_)
        | (refine w_frzI rfl rfl rfl ?_)
        | with_reducible (first | refine zX ?_ | refine zD fun _ => ?_ | refine zD0 ?_ | refine zN ?_ | refine zF0 ?_ | refine zX0 ?_ | refine z1 ?_ | refine z2 ?_ | refine z3 ?_ | refine z4 ?_ | refine z5 ?_ | refine z6 ?_ | refine z7 ?_ | refine z8 ?_ | refine y1 ?_ | refine y2 ?_ | refine y3 ?_ | refine y4 ?_ | refine y5 ?_ | refine y6 ?_ | refine y7 ?_ | refine y8 ?_ | refine Rt.p (fun _ => ?_) fun _ => ?_)
        | ((with_reducible apply w_ixM); (focus exact rfl); (focus exact rfl); case' hk => intro y hy) | ((with_reducible (first | apply w_val | apply q_ends)); (focus exact rfl)))
      refine ⟨_, ⟨x0 :: xs, rfl, ?_⟩, rfl⟩
      have : (x0 :: xs).length = n := by omega
      rw [← this]; exact hp
  have hps := hp.snoc
  have hsl : (xs ++ [(xs.length : Int)]).length = xs.length + 1 := by simp
  cases xs with
  | nil =>
    have hz : ([] : List Int).length = 0 := rfl
    repeat' (first
      | with_reducible (first | refine Rd.p ?_ | refine w_alt ?_ ?_ | refine zE ?_ | refine zE0 ?_)
      | (first | (refine w_apmN rfl rfl ?_; intro _) | refine w_ldI rfl rfl (by exact Nat.le_of_ble_eq_true rfl) ?_ | refine w_stI rfl rfl rfl (by exact Nat.le_of_ble_eq_true rfl) ?_)
      | with_reducible (first | refine zI fun y hy => ?_ | refine zL ?_ | refine zS ?_ | refine zA fun _ => ?_ | refine zV ?_ | refine zC ?_ | refine zG ?_ | refine zU ?_ | refine zG0 ?_ | refine zU0 ?_ | refine zF ?_)
      | ((with_reducible refine acall_id ?_); refine ACall.box (up_c _ _ _ (by omega)) rfl rfl rfl ?_; rintro _ _ ⟨k, rfl, hk1, hk2⟩)
      | (have hk0 : k = 0 := (by omega); subst hk0; clear hk1 hk2)
      | with_reducible (first | refine zX ?_ | refine zD fun _ => ?_ | refine zD0 ?_ | refine zN ?_ | refine zF0 ?_ | refine zX0 ?_ | refine z1 ?_ | refine z2 ?_ | refine z3 ?_ | refine z4 ?_ | refine z5 ?_ | refine z6 ?_ | refine z7 ?_ | refine z8 ?_ | refine y1 ?_ | refine y2 ?_ | refine y3 ?_ | refine y4 ?_ | refine y5 ?_ | refine y6 ?_ | refine y7 ?_ | refine y8 ?_ | refine Rt.p (fun _ => ?_) fun _ => ?_)
      | ((with_reducible apply w_ixM); (focus exact rfl); (focus exact rfl); case' hk => intro y hy) | ((with_reducible (first | apply w_val | apply q_ends)); (focus exact rfl)))
    refine q_loop ([0], _, _) ?_ ?_ (by repeat' (first | exact slots_nil | apply slots_cons | rfl | (rw [map_snoc]; rfl) | (rw [len_snoc]; rfl) | (rw [hS]; rfl) | (rw [hS, map_snoc]; rfl) | (refine int_eq ?_; (try dsimp only); omega) | (refine congrArg AV.bool ?_; simp_all; done))) (by exact ⟨rfl, rfl, trivial⟩) (by repeat' (first | exact kept_nil | apply kept_cons | rfl)) (by repeat' (first | exact kept_nil | apply kept_cons | rfl))
    · exact ⟨by simp; omega, hps⟩
    · simp; omega
  | cons x0 xs =>
    have hlx : (x0 :: xs).length = xs.length + 1 := rfl
    have hq : ∀ k : Nat, k < xs.length + 2 → isPerm (xs.length + 2) (((x0 :: xs ++ [((x0 :: xs).length : Int)]).set ((((x0 :: xs).length : Nat) : Int).toNat * 1) ((x0 :: xs ++ [((x0 :: xs).length : Int)]).getD (k * 1) 0)).set (k * 1) ((x0 :: xs ++ [((x0 :: xs).length : Int)]).getD ((((x0 :: xs).length : Nat) : Int).toNat * 1) 0)) := by
      intro k hk
      have e1 : (((x0 :: xs).length : Nat) : Int).toNat * 1 = xs.length + 1 := by simp
      rw [e1, Nat.mul_one]
      exact hps.of_perm (swap_perm (by simp) (by simp; omega))
    repeat' (first
      | with_reducible (first | refine Rd.p ?_ | refine w_alt ?_ ?_ | refine zE ?_ | refine zE0 ?_)
      | (first | (refine w_apmI rfl rfl rfl (by omega) rfl ?_; intro g') | refine w_ldI rfl rfl (by first | omega | (simp; omega)) ?_ | refine w_stI rfl rfl rfl (by first | omega | (simp; omega)) ?_)
      | with_reducible (first | refine zI fun y hy => ?_ | refine zL ?_ | refine zS ?_ | refine zA fun _ => ?_ | refine zV ?_ | refine zC ?_ | refine zG ?_ | refine zU ?_ | refine zG0 ?_ | refine zU0 ?_ | refine zF ?_)
      | ((with_reducible refine acall_id ?_); refine ACall.box (up_c _ _ _ (by omega)) rfl rfl rfl ?_; rintro _ _ ⟨k, rfl, hk1, hk2⟩)
      | with_reducible (first | refine zX ?_ | refine zD fun _ => ?_ | refine zD0 ?_ | refine zN ?_ | refine zF0 ?_ | refine zX0 ?_ | refine z1 ?_ | refine z2 ?_ | refine z3 ?_ | refine z4 ?_ | refine z5 ?_ | refine z6 ?_ | refine z7 ?_ | refine z8 ?_ | refine y1 ?_ | refine y2 ?_ | refine y3 ?_ | refine y4 ?_ | refine y5 ?_ | refine y6 ?_ | refine y7 ?_ | refine y8 ?_ | refine Rt.p (fun _ => ?_) fun _ => ?_)
      | ((with_reducible apply w_ixM); (focus exact rfl); (focus exact rfl); case' hk => intro y hy) | ((with_reducible (first | apply w_val | apply q_ends)); (focus exact rfl)))
    have hq2 := hq k.toNat (by omega)
    generalize hnl : ((x0 :: xs ++ [((x0 :: xs).length : Int)]).set ((((x0 :: xs).length : Nat) : Int).toNat * 1) ((x0 :: xs ++ [((x0 :: xs).length : Int)]).getD (k.toNat * 1) 0)).set (k.toNat * 1) ((x0 :: xs ++ [((x0 :: xs).length : Int)]).getD ((((x0 :: xs).length : Nat) : Int).toNat * 1) 0) = nl at hq2
    cases nl with
    | nil => have := hq2.len; simp at this
    | cons y0 ys =>
      have hyl : (y0 :: ys).length = (x0 :: xs).length + 1 := by rw [hq2.len]; rfl
      refine q_loop (y0 :: ys, g', _) ?_ ?_ (by exact ⟨int_eq (by dsimp only; rw [hyl]; rfl), (congrArg (fun n => AV.msl 5 g' n 1) hyl.symm), trivial⟩) (by exact ⟨rfl, rfl, trivial⟩) (by repeat' (first | exact kept_nil | apply kept_cons | rfl)) (by repeat' (first | exact kept_nil | apply kept_cons | rfl))
      · refine ⟨by dsimp only; omega, ?_⟩
        dsimp only
        rw [hyl, hlx]; exact hq2
      · dsimp only; omega
end Go.Abs
namespace Go.Abs
open Go.Proofs
section
variable {P : Program}
/-- Rows of a struct: their cells are numbers and strings alone. -/
structure FlatR {α : Type} (row : α → List AV) (sz : Nat) : Prop where
  len : ∀ x, (row x).length = sz
  norm : ∀ x, normL (row x) = row x
  scal : ∀ x, (row x).all AV.scal = true
  frz : ∀ i g c x, frzL i g c (row x) = row x
  ren : ∀ ρ x, renL ρ (row x) = row x
variable {α : Type} {row : α → List AV} {sz : Nat}
theorem FlatR.flat_len (h : FlatR row sz) : ∀ xs : List α, (xs.map row).flatten.length = xs.length * sz
  | [] => by simp
  | x :: xs => by simp only [List.map_cons, List.flatten_cons, List.length_append, h.len, h.flat_len xs, List.length_cons, Nat.add_mul]; omega
theorem FlatR.chunk (h : FlatR row sz) : ∀ xs : List α, chunk sz xs.length (normL (xs.map row).flatten) = xs.map row
  | [] => rfl
  | x :: xs => by
    have e : normL ((x :: xs).map row).flatten = row x ++ normL (xs.map row).flatten := by
      simp only [List.map_cons, List.flatten_cons, normL, List.map_append]
      congr 1
      exact h.norm x
    rw [e, List.length_cons, Go.Abs.chunk, List.take_left' (h.len x), List.drop_left' (h.len x), h.chunk xs]; rfl
theorem FlatR.get (h : FlatR row sz) {pre post : List α} {y : α} {j : Nat} (hj : j < sz) : ((pre ++ y :: post).map row).flatten[pre.length * sz + j]? = (row y)[j]? := by
  rw [List.map_append, List.map_cons, List.flatten_append, List.flatten_cons, List.getElem?_append_right (by rw [h.flat_len]; omega), h.flat_len, Nat.add_sub_cancel_left, List.getElem?_append_left (by rw [h.len]; exact hj)]
theorem FlatR.set (h : FlatR row sz) {pre post : List α} {y y' : α} {j : Nat} {c : AV} (hj : j < sz) (hy : (row y).set j c = row y') : ((pre ++ y :: post).map row).flatten.set (pre.length * sz + j) c = ((pre ++ y' :: post).map row).flatten := by
  rw [List.map_append, List.map_cons, List.flatten_append, List.flatten_cons, List.set_append_right _ _ (by rw [h.flat_len]; omega), h.flat_len, Nat.add_sub_cancel_left, List.set_append_left _ _ (by rw [h.len]; exact hj), hy]
  simp
theorem w_apmR {K : (Nat → AV) → Sig → Prop} {e : Nat → AV} {σ : Sig} {x y : IOpd} {r : List IStep} {d i bytes : Nat} {x0 : α} {xs : List α} {t : Tag} (hx : x.ev e = .slc sz [] .full) (hy : y.ev e = .slc sz ((x0 :: xs).map row) t) (hb : (x0 :: xs).length * bytes ≤ 140737488355328)
    (hk : ∀ g, stepsW P r K (upd e d (.msl i g (x0 :: xs).length sz)) (newS σ i g ((x0 :: xs).map row).flatten)) : stepsW P (⟨some d, none, .apm sz bytes x y i⟩ :: r) K e σ := by
  have hl : ((x0 :: xs).map row).length = (x0 :: xs).length := by simp
  refine w_det (p := sz = sz ∧ sz = sz ∧ (0 + ((x0 :: xs).map row).length) * bytes ≤ 140737488355328) (v := fun g => .msl i g (x0 :: xs).length sz) (σ' := fun g => newS σ i g ((x0 :: xs).map row).flatten) (fun g => ?_) ⟨rfl, rfl, by rw [hl, Nat.zero_add]; exact hb⟩ hk
  show (match baseM sz σ (x.ev e), rowsO sz (y.ev e) with
    | some (p, n, c, σ'), some (q, ys) => (match ys with
      | [] => some (p ∧ q, x.ev e, σ)
      | _ :: _ => some (p ∧ q ∧ (n + ys.length) * bytes ≤ 140737488355328, AV.msl i g (n + ys.length) sz, newS σ' i g (c ++ ys.flatten)))
    | some (p, n, c, σ'), none => (match rowsM sz σ (y.ev e) with
      | some (q, m, ys) => some (p ∧ q ∧ (n + m) * bytes ≤ 140737488355328, AV.msl i g (n + m) sz, newS σ' i g (c ++ ys))
      | none => none)
    | _, _ => none) = _
  rw [hx, hy]
  simp only [baseM, rowsO, List.map_cons, List.length_cons, List.length_map, Nat.zero_add, List.nil_append]
end
end Go.Abs
namespace Go.Abs
theorem candF_all {now : List Int} : ∀ (m s : Nat) {x : Nat}, s ≤ x → x < s + m → (x : Int) ∉ now → (x : Int) ∈ candF now m s
  | 0, s, x, h1, h2, _ => by omega
  | m + 1, s, x, h1, h2, h3 => by
    rw [candF]
    by_cases e : s = x
    · subst e
      have : ¬ 0 ≤ idxI now s := fun h => h3 (idx_mem.1 h)
      rw [if_neg this]; simp
    · have ih := candF_all m (s + 1) (x := x) (by omega) (by omega) h3
      split
      · exact ih
      · simp [ih]
theorem permsK_all {n : Nat} : ∀ (k : Nat) (now s : List Int), s.length = k → (now ++ s).Nodup → (∀ x ∈ s, 0 ≤ x ∧ x < n) → now ++ s ∈ permsK n k now
  | 0, now, s, hs, _, _ => by
    have : s = [] := List.length_eq_zero_iff.1 hs
    subst this; simp [permsK]
  | k + 1, now, [], hs, _, _ => by simp at hs
  | k + 1, now, g :: s, hs, hn, hb => by
    rw [permsK, List.mem_flatMap]
    have hg := hb g (by simp)
    have hm : g ∉ now := fun h => (List.nodup_append.1 hn).2.2 g h g (by simp) rfl
    obtain ⟨x, rfl⟩ := Int.eq_ofNat_of_zero_le hg.1
    refine ⟨(x : Int), candF_all n 0 (Nat.zero_le _) (by omega) hm, ?_⟩
    have e : now ++ (x : Int) :: s = (now ++ [(x : Int)]) ++ s := by simp
    have := permsK_all k (now ++ [(x : Int)]) s (by simpa using hs) (by rw [← e]; exact hn) fun y hy => hb y (by simp [hy])
    rw [← e] at this; exact this
theorem mem_perms {n : Nat} {l : List Int} : l ∈ perms n ↔ isPerm n l :=
  ⟨perm_of, fun h => permsK_all n [] l h.len h.nd h.bd⟩
end Go.Abs
namespace Go.Abs
open Go.Proofs
/-- aloeswood/aloeswoodkit.Has -/
def ir37 : IFn :=
  ⟨18, [(4, none)], (.seq (.ops [⟨(some 4), none, (.mov (.k (.bool false)))⟩])
  (.seq (.seq (.ops [⟨(some 5), none, (.mov (.k (.int .i64 0)))⟩])
  (.blk 0 (.loop (.seq (.seq (.ops [⟨(some 6), none, (.mov (.t 5))⟩,
        ⟨(some 7), none, (.mov (.t 0))⟩,
        ⟨(some 8), none, (.len false (.t 7))⟩,
        ⟨(some 9), none, (.bin .lss (.t 6) (.t 8))⟩])
      (.cnd (.t 9)
        .skip
        (.exit 0)))
      (.seq (.blk 1 (.seq (.ops [⟨(some 12), none, (.mov (.t 0))⟩,
          ⟨(some 13), none, (.mov (.t 5))⟩,
          ⟨(some 14), none, (.ixA 1 (.t 12) (.t 13))⟩,
          ⟨(some 15), none, (.ld 1 false (.t 14))⟩,
          ⟨(some 16), none, (.mov (.t 1))⟩,
          ⟨(some 17), none, (.bin .eql (.t 15) (.t 16))⟩])
        (.cnd (.t 17)
          (.seq (.ops [⟨(some 4), none, (.mov (.k (.bool true)))⟩])
          .ret)
          .skip)))
      (.ops [⟨(some 10), none, (.mov (.t 5))⟩,
        ⟨(some 11), none, (.bin .add (.t 10) (.k (.int .i64 1)))⟩,
        ⟨(some 5), none, (.mov (.t 11))⟩]))))))
  (.seq (.ops [⟨(some 4), none, (.mov (.k (.bool false)))⟩])
  .ret)))⟩
def hint37 (P : Program) : Hint := {}
theorem has_c (l : List Int) (k : Int) (hl : l.length < 1000000) : Fn0 Try.prog 37 [.slc 1 (iR l) .non, .int .i64 k] (fun v => v = .bool (decide (k ∈ l))) := by
  refine RawC.walk (H := hint37 Try.prog) ir37 Try.func37 rfl rfl rfl ?_
  unfold ir37
  repeat' (first
    | with_reducible (first | refine Rd.p ?_ | refine w_alt ?_ ?_ | refine zE ?_ | refine zE0 ?_)
    | with_reducible (first | refine zI fun y hy => ?_ | refine zL ?_ | refine zS ?_ | refine zA fun _ => ?_ | refine zV ?_ | refine zC ?_ | refine zG ?_ | refine zU ?_ | refine zG0 ?_ | refine zU0 ?_ | refine zF ?_)
    | with_reducible (first | refine zX ?_ | refine zD fun _ => ?_ | refine zD0 ?_ | refine zN ?_ | refine zF0 ?_ | refine zX0 ?_ | refine z1 ?_ | refine z2 ?_ | refine z3 ?_ | refine z4 ?_ | refine z5 ?_ | refine z6 ?_ | refine z7 ?_ | refine z8 ?_ | refine y1 ?_ | refine y2 ?_ | refine y3 ?_ | refine y4 ?_ | refine y5 ?_ | refine y6 ?_ | refine y7 ?_ | refine y8 ?_ | refine Rt.p (fun _ => ?_) fun _ => ?_)
    | ((with_reducible apply w_ixM); (focus exact rfl); (focus exact rfl); case' hk => intro y hy) | ((with_reducible (first | apply w_val | apply q_ends)); (focus exact rfl)))
  refine w_loopK [0, 1] [] (fun x : List Int × List Int => l = x.1 ++ x.2 ∧ k ∉ x.1) (fun x => x.2.length) (fun x => [(5, .int .i64 x.1.length)]) (fun _ => []) ([], l) ⟨rfl, by simp⟩ ⟨rfl, trivial⟩ trivial ?_
  rintro ⟨pre, post⟩ ⟨hp, hb⟩ e σ
  dsimp only at hp hb ⊢
  have hlen := congrArg List.length hp
  cases post with
  | nil =>
    simp only [List.append_nil, List.length_append, List.length_nil] at hlen
    repeat' (first
      | with_reducible (first | refine Rd.p ?_ | refine w_alt ?_ ?_ | refine zE ?_ | refine zE0 ?_)
      | with_reducible (first | refine zI fun y hy => ?_ | refine zL ?_ | refine zS ?_ | refine zA fun _ => ?_ | refine zV ?_ | refine zC ?_ | refine zG ?_ | refine zU ?_ | refine zG0 ?_ | refine zU0 ?_ | refine zF ?_)
      | with_reducible (first | refine zX ?_ | refine zD fun _ => ?_ | refine zD0 ?_ | refine zN ?_ | refine zF0 ?_ | refine zX0 ?_ | refine z1 ?_ | refine z2 ?_ | refine z3 ?_ | refine z4 ?_ | refine z5 ?_ | refine z6 ?_ | refine z7 ?_ | refine z8 ?_ | refine y1 ?_ | refine y2 ?_ | refine y3 ?_ | refine y4 ?_ | refine y5 ?_ | refine y6 ?_ | refine y7 ?_ | refine y8 ?_ | refine Rt.p (fun _ => ?_) fun _ => ?_)
      | ((with_reducible apply w_ixM); (focus exact rfl); (focus exact rfl); case' hk => intro y hy) | ((with_reducible (first | apply w_val | apply q_ends)); (focus exact rfl)))
    refine congrArg AV.bool (decide_eq_false ?_).symm
    rw [hp, List.append_nil]; exact hb
  | cons c post =>
    simp only [List.length_append, List.length_cons] at hlen
    repeat' (first
      | with_reducible (first | refine Rd.p ?_ | refine w_alt ?_ ?_ | refine zE ?_ | refine zE0 ?_)
      | (refine w_ixP hp rfl rfl ?_)
      | with_reducible (first | refine zI fun y hy => ?_ | refine zL ?_ | refine zS ?_ | refine zA fun _ => ?_ | refine zV ?_ | refine zC ?_ | refine zG ?_ | refine zU ?_ | refine zG0 ?_ | refine zU0 ?_ | refine zF ?_)
      | with_reducible (first | refine zX ?_ | refine zD fun _ => ?_ | refine zD0 ?_ | refine zN ?_ | refine zF0 ?_ | refine zX0 ?_ | refine z1 ?_ | refine z2 ?_ | refine z3 ?_ | refine z4 ?_ | refine z5 ?_ | refine z6 ?_ | refine z7 ?_ | refine z8 ?_ | refine y1 ?_ | refine y2 ?_ | refine y3 ?_ | refine y4 ?_ | refine y5 ?_ | refine y6 ?_ | refine y7 ?_ | refine y8 ?_ | refine Rt.p (fun _ => ?_) fun _ => ?_)
      | ((with_reducible apply w_ixM); (focus exact rfl); (focus exact rfl); case' hk => intro y hy) | ((with_reducible (first | apply w_val | apply q_ends)); (focus exact rfl)))
    · rename_i h
      exact congrArg AV.bool (decide_eq_true (by rw [hp, ← h]; simp)).symm
    · rename_i h
      refine zQ (pre ++ [c], post) ?_ ?_
      · dsimp only
        refine ⟨by rw [hp]; simp, ?_⟩
        simp [hb]; exact fun hc => h hc.symm
      · simp
end Go.Abs
namespace Go.Abs
open Go.Proofs
/-- aloeswood/aloeswoodkit.EqLists -/
def ir28 : IFn :=
  ⟨27, [(4, none)], (.seq (.ops [⟨(some 4), none, (.mov (.k (.bool false)))⟩])
  (.seq (.seq (.ops [⟨(some 6), none, (.mov (.t 0))⟩,
    ⟨(some 7), none, (.len false (.t 6))⟩,
    ⟨(some 8), none, (.mov (.t 1))⟩,
    ⟨(some 9), none, (.len false (.t 8))⟩,
    ⟨(some 10), none, (.bin .neq (.t 7) (.t 9))⟩])
  (.cnd (.t 10)
    (.seq (.ops [⟨(some 4), none, (.mov (.k (.bool false)))⟩])
    .ret)
    .skip))
  (.seq (.seq (.ops [⟨(some 5), none, (.mov (.k (.int .i64 0)))⟩])
  (.blk 0 (.loop (.seq (.seq (.ops [⟨(some 11), none, (.mov (.t 5))⟩,
        ⟨(some 12), none, (.mov (.t 0))⟩,
        ⟨(some 13), none, (.len false (.t 12))⟩,
        ⟨(some 14), none, (.bin .lss (.t 11) (.t 13))⟩])
      (.cnd (.t 14)
        .skip
        (.exit 0)))
      (.seq (.blk 1 (.seq (.ops [⟨(some 17), none, (.mov (.t 0))⟩,
          ⟨(some 18), none, (.mov (.t 5))⟩,
          ⟨(some 19), none, (.ixA 1 (.t 17) (.t 18))⟩,
          ⟨(some 20), none, (.ld 1 false (.t 19))⟩,
          ⟨(some 21), none, (.mov (.t 1))⟩,
          ⟨(some 22), none, (.mov (.t 5))⟩,
          ⟨(some 23), none, (.ixA 1 (.t 21) (.t 22))⟩,
          ⟨(some 24), none, (.ld 1 false (.t 23))⟩,
          ⟨(some 25), none, (.callF 40 [(.t 20), (.t 24)])⟩,
          ⟨(some 26), none, (.not (.t 25))⟩])
        (.cnd (.t 26)
          (.seq (.ops [⟨(some 4), none, (.mov (.k (.bool false)))⟩])
          .ret)
          .skip)))
      (.ops [⟨(some 15), none, (.mov (.t 5))⟩,
        ⟨(some 16), none, (.bin .add (.t 15) (.k (.int .i64 1)))⟩,
        ⟨(some 5), none, (.mov (.t 16))⟩]))))))
  (.seq (.ops [⟨(some 4), none, (.mov (.k (.bool true)))⟩])
  .ret))))⟩
def hint28 (P : Program) : Hint := {}
theorem eqLists_c (a b : List (List Int)) (h : a.length < 2 ^ 62) (hs : ∀ l ∈ a, l.length < 2 ^ 62) : Fn0 Try.prog 28 [.slc 1 (llR a) .non, .slc 1 (llR b) .non] (fun v => v = .bool (decide (a = b))) := by
  refine RawC.walk (H := hint28 Try.prog) ir28 Try.func28 rfl rfl rfl ?_
  unfold ir28
  repeat' (first
    | with_reducible (first | refine Rd.p ?_ | refine w_alt ?_ ?_ | refine zE ?_ | refine zE0 ?_)
    | with_reducible (first | refine zI fun y hy => ?_ | refine zL ?_ | refine zS ?_ | refine zA fun _ => ?_ | refine zV ?_ | refine zC ?_ | refine zG ?_ | refine zU ?_ | refine zG0 ?_ | refine zU0 ?_ | refine zF ?_)
    | with_reducible (first | refine zX ?_ | refine zD fun _ => ?_ | refine zD0 ?_ | refine zN ?_ | refine zF0 ?_ | refine zX0 ?_ | refine z1 ?_ | refine z2 ?_ | refine z3 ?_ | refine z4 ?_ | refine z5 ?_ | refine z6 ?_ | refine z7 ?_ | refine z8 ?_ | refine y1 ?_ | refine y2 ?_ | refine y3 ?_ | refine y4 ?_ | refine y5 ?_ | refine y6 ?_ | refine y7 ?_ | refine y8 ?_ | refine Rt.p (fun _ => ?_) fun _ => ?_)
    | ((with_reducible apply w_ixM); (focus exact rfl); (focus exact rfl); case' hk => intro y hy) | ((with_reducible (first | apply w_val | apply q_ends)); (focus exact rfl)))
  · rename_i h; refine congrArg AV.bool ?_; symm; rw [decide_eq_false_iff_not]; intro e; subst e; exact h rfl
  rename_i hlen
  have hab : a.length = b.length := by omega
  refine w_loopK [0, 1] [] (fun x : List (List Int) × List (List Int) × List (List Int) => a = x.1 ++ x.2.1 ∧ b = x.1 ++ x.2.2) (fun x => x.2.1.length) (fun x => [(5, .int .i64 x.1.length)]) (fun _ => []) ([], a, b) ⟨rfl, rfl⟩ ⟨rfl, trivial⟩ trivial ?_
  rintro ⟨pre, pa, pb⟩ ⟨ha, hb⟩ e σ
  dsimp only at ha hb ⊢
  have hla := congrArg List.length ha
  have hlb := congrArg List.length hb
  simp only [List.length_append] at hla hlb
  cases pa with
  | nil =>
    simp only [List.length_nil] at hla
    repeat' (first
      | with_reducible (first | refine Rd.p ?_ | refine w_alt ?_ ?_ | refine zE ?_ | refine zE0 ?_)
      | with_reducible (first | refine zI fun y hy => ?_ | refine zL ?_ | refine zS ?_ | refine zA fun _ => ?_ | refine zV ?_ | refine zC ?_ | refine zG ?_ | refine zU ?_ | refine zG0 ?_ | refine zU0 ?_ | refine zF ?_)
      | with_reducible (first | refine zX ?_ | refine zD fun _ => ?_ | refine zD0 ?_ | refine zN ?_ | refine zF0 ?_ | refine zX0 ?_ | refine z1 ?_ | refine z2 ?_ | refine z3 ?_ | refine z4 ?_ | refine z5 ?_ | refine z6 ?_ | refine z7 ?_ | refine z8 ?_ | refine y1 ?_ | refine y2 ?_ | refine y3 ?_ | refine y4 ?_ | refine y5 ?_ | refine y6 ?_ | refine y7 ?_ | refine y8 ?_ | refine Rt.p (fun _ => ?_) fun _ => ?_)
      | ((with_reducible apply w_ixM); (focus exact rfl); (focus exact rfl); case' hk => intro y hy) | ((with_reducible (first | apply w_val | apply q_ends)); (focus exact rfl)))
    have : pb = [] := List.length_eq_zero_iff.1 (by omega)
    subst this
    refine congrArg AV.bool ?_; symm; rw [decide_eq_true_eq, ha, hb]
  | cons x pa =>
    cases pb with
    | nil => exfalso; simp only [List.length_nil, List.length_cons] at hla hlb; omega
    | cons y pb =>
      simp only [List.length_cons] at hla hlb
      have hE := eq_c x y (hs x (by rw [ha]; simp))
      repeat' (first
        | with_reducible (first | refine Rd.p ?_ | refine w_alt ?_ ?_ | refine zE ?_ | refine zE0 ?_)
        | (first | refine w_ixP ha rfl rfl ?_ | refine w_ixP hb rfl rfl ?_)
        | with_reducible (first | refine zI fun y hy => ?_ | refine zL ?_ | refine zS ?_ | refine zA fun _ => ?_ | refine zV ?_ | refine zC ?_ | refine zG ?_ | refine zU ?_ | refine zG0 ?_ | refine zU0 ?_ | refine zF ?_)
        | ((with_reducible refine acall_id ?_); refine ACall.val hE rfl rfl ?_)
        | with_reducible (first | refine zX ?_ | refine zD fun _ => ?_ | refine zD0 ?_ | refine zN ?_ | refine zF0 ?_ | refine zX0 ?_ | refine z1 ?_ | refine z2 ?_ | refine z3 ?_ | refine z4 ?_ | refine z5 ?_ | refine z6 ?_ | refine z7 ?_ | refine z8 ?_ | refine y1 ?_ | refine y2 ?_ | refine y3 ?_ | refine y4 ?_ | refine y5 ?_ | refine y6 ?_ | refine y7 ?_ | refine y8 ?_ | refine Rt.p (fun _ => ?_) fun _ => ?_)
        | ((with_reducible apply w_ixM); (focus exact rfl); (focus exact rfl); case' hk => intro y hy) | ((with_reducible (first | apply w_val | apply q_ends)); (focus exact rfl)))
      · rename_i h
        refine congrArg AV.bool ?_; symm
        rw [decide_eq_false_iff_not]; intro e
        rw [ha, hb] at e
        have := List.append_cancel_left e
        simp at this
        exact h this.1
      · rename_i h
        subst h
        refine zQ (pre ++ [x], pa, pb) ?_ ?_
        · exact ⟨by rw [ha]; simp, by rw [hb]; simp⟩
        · simp
end Go.Abs
namespace Go.Abs
open Go.Proofs
theorem boxOf_s (l : List Int) (hl : l.length < 2 ^ 62) : RawC Try.prog 17 [.slc 1 (iR l) .non] (sg []) (SR (fun (x : Nat × Int) v => v = .ref 6 x.1 0) (fun x => [(6, (x.1, .row [.int .u64 x.2]))])) :=
  (boxOf_c l hl).mono fun _ _ ⟨g, w, h1, h2⟩ => ⟨(g, w), h1, h2, trivial⟩
end Go.Abs
