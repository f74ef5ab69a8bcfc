/- A part of the layer of abstract values: the program is read into steps over values, each step is sound, and a walk over the steps is a proof of the program. No condition. -/
import Derived.Test.YtcgcciegekaliaaAbs
set_option linter.unusedVariables false
set_option linter.unusedSimpArgs false

/-! ### Soundness: operations that give a value and leave the world alone -/
namespace Go.Abs
theorem ov_inj {α : Type} {p q : Prop} {v u : α} (h : some (p, v) = some (q, u)) : p = q ∧ v = u := by
  injection h with h; exact Prod.mk.inj h
theorem forceA_eq {a v : AV} (h : forceA a = some v) : v = a := by cases a <;> simp [forceA] at h <;> exact h.symm
theorem liftV_force {a : AV} {p : Prop} {v : AV} (h : liftV (forceA a) = some (p, v)) : v = a := by
  cases hf : forceA a with
  | none => rw [hf] at h; simp [liftV] at h
  | some u => rw [hf] at h; rw [← (ov_inj h).2]; exact forceA_eq hf

theorem ofV_rel (G : GS) (v : Value) : Rel G (ofV v) v := by
  unfold ofV
  split <;> try (first | exact trivial | exact rfl)
  split
  · rename_i h
    refine ⟨_, _, rfl, ?_, ?_⟩
    · exact List.eq_nil_of_length_eq_zero (by simpa using h.1)
    · exact List.eq_nil_of_length_eq_zero (by simpa using h.2)
  · exact trivial

def ORel (G : GS) (e : Nat → AV) (ρ : Operand → Value) : Prop := ∀ x y, cOpd x = some y → Rel G (y.ev e) (ρ x)

theorem orel_act {G : GS} {e : Nat → AV} {a : Act} (h : ∀ t, Rel G (e t) (a.tmps.getD t undef)) : ORel G e a.eval := by
  intro x y hx
  cases x with
  | tmp t => simp [cOpd] at hx; subst hx; exact h t
  | const v => simp [cOpd] at hx; subst hx; exact ofV_rel G v
  | func f => simp [cOpd] at hx; subst hx; exact ⟨#[], #[], rfl, rfl, rfl⟩
  | global g => simp [cOpd] at hx

section
variable {P : Program} {G : GS} {w : World} {a b c v : AV} {p : Prop} {va vb vc : Value}

theorem run_eqGuard_int (op : BinOp) (t : TypeId) (x y : Operand) (k k' : IntKind) (m n : Int) : (eqGuard op t x y (.int k m) (.int k' n)).run P w = .ok () w := by
  unfold eqGuard; cases op <;> rfl
theorem run_eqGuard_str (op : BinOp) (t : TypeId) (x y : Operand) (m n : ByteArray) : (eqGuard op t x y (.string m) (.string n)).run P w = .ok () w := by
  unfold eqGuard; cases op <;> rfl

theorem kix_eq {k k' : IntKind} (h : Nat.beq (kix k) (kix k') = true) : k = k' := by cases k <;> cases k' <;> first | rfl | exact absurd h (by decide)

theorem fitV_rel {k : IntKind} {q : Prop} {n : Int} (h : fitV k q n = some (p, v)) (hp : p) : q ∧ v = .int k (k.wrap n) := by
  cases k <;> simp only [fitV] at h
  case i64 => obtain ⟨rfl, rfl⟩ := ov_inj h; exact ⟨hp.1, by rw [IntWalk.i64_in n hp.2]⟩
  all_goals (obtain ⟨rfl, rfl⟩ := ov_inj h; exact ⟨hp, rfl⟩)

theorem s_int {op : BinOp} {t : TypeId} {x y : Operand} {k k' : IntKind} {m n : Int} (h : intO op k m k' n = some (p, v)) (hp : p) :
    ∃ v', (do eqGuard op t x y (.int k m) (.int k' n); binOp op t (.int k m) (.int k' n)).run P w = .ok v' w ∧ Rel G v v' := by
  rw [Sem.run_bind, run_eqGuard_int, Result.andThen_ok]
  by_cases hk : k = k'
  · subst hk
    have hb : Nat.beq (kix k) (kix k) = true := by simp
    cases op <;> simp only [intO, hb] at h
    case shl =>
      obtain ⟨h0, rfl⟩ := fitV_rel h hp
      exact ⟨_, by simp [binOp, Op.shift, Int.not_lt.2 h0], rfl⟩
    case shr =>
      obtain ⟨rfl, rfl⟩ := ov_inj h
      exact ⟨_, by simp [binOp, Op.shift, Int.not_lt.2 hp], rfl⟩
    case add => obtain ⟨_, rfl⟩ := fitV_rel h hp; exact ⟨_, by simp [binOp, Op.intArith], rfl⟩
    case sub => obtain ⟨_, rfl⟩ := fitV_rel h hp; exact ⟨_, by simp [binOp, Op.intArith], rfl⟩
    case mul => obtain ⟨_, rfl⟩ := fitV_rel h hp; exact ⟨_, by simp [binOp, Op.intArith], rfl⟩
    case quo => obtain ⟨h0, rfl⟩ := fitV_rel h hp; exact ⟨_, by simp [binOp, Op.intDiv, h0], rfl⟩
    case rem => obtain ⟨rfl, rfl⟩ := ov_inj h; exact ⟨_, by simp [binOp, Op.intDiv, hp], rfl⟩
    case and => obtain ⟨rfl, rfl⟩ := ov_inj h; exact ⟨_, by simp only [binOp, ne_eq, not_true, if_false, Op.intBits]; rfl, rfl⟩
    case or => obtain ⟨rfl, rfl⟩ := ov_inj h; exact ⟨_, by simp only [binOp, ne_eq, not_true, if_false, Op.intBits]; rfl, rfl⟩
    case xor => obtain ⟨rfl, rfl⟩ := ov_inj h; exact ⟨_, by simp only [binOp, ne_eq, not_true, if_false, Op.intBits]; rfl, rfl⟩
    case andNot => obtain ⟨rfl, rfl⟩ := ov_inj h; exact ⟨_, by simp only [binOp, ne_eq, not_true, if_false, Op.intBits]; rfl, rfl⟩
    all_goals (obtain ⟨rfl, rfl⟩ := ov_inj h; refine ⟨_, by simp [binOp, Op.intCmp]; rfl, ?_⟩; simp [Rel]; try (by_cases e : m = n <;> simp [e]))
  · have hb : Nat.beq (kix k) (kix k') = false := by
      cases e : Nat.beq (kix k) (kix k') with
      | false => rfl
      | true => exact absurd (kix_eq e) hk
    cases op <;> simp only [intO, hb] at h
    case shl =>
      obtain ⟨h0, rfl⟩ := fitV_rel h hp
      exact ⟨_, by simp [binOp, Op.shift, Int.not_lt.2 h0], rfl⟩
    case shr =>
      obtain ⟨rfl, rfl⟩ := ov_inj h
      exact ⟨_, by simp [binOp, Op.shift, Int.not_lt.2 hp], rfl⟩
    all_goals (simp at h)

theorem bytes_ext {m n : ByteArray} (h : m.data.toList = n.data.toList) : m = n := by
  cases m with | mk a => cases n with | mk b => congr 1; exact Array.toList_inj.1 h
theorem bytes_eq (m n : ByteArray) : (m.toList == n.toList) = decide (m = n) := by
  rw [ByteArray.toList_eq, ByteArray.toList_eq, Bool.eq_iff_iff]; simp only [beq_iff_eq, decide_eq_true_eq]
  exact ⟨bytes_ext, fun h => by rw [h]⟩

theorem s_str {op : BinOp} {t : TypeId} {x y : Operand} {m n : ByteArray} (h : strO op m n = some (p, v)) (hp : p) :
    ∃ v', (do eqGuard op t x y (.string m) (.string n); binOp op t (.string m) (.string n)).run P w = .ok v' w ∧ Rel G v v' := by
  rw [Sem.run_bind, run_eqGuard_str, Result.andThen_ok]
  cases op <;> simp only [strO] at h
  case add =>
    obtain ⟨rfl, rfl⟩ := ov_inj h
    refine ⟨.string (m ++ n), ?_, rfl⟩
    simp only [binOp, Op.stringOp]
    rw [if_neg (by simp only [IntKind.max]; simp [IntKind.signed, IntKind.bits]; omega)]
    rfl
  case eql =>
    obtain ⟨rfl, rfl⟩ := ov_inj h
    refine ⟨.bool (m.toList == n.toList), by simp only [binOp, Op.stringOp]; rfl, ?_⟩
    rw [bytes_eq]; rfl
  case neq =>
    obtain ⟨rfl, rfl⟩ := ov_inj h
    refine ⟨.bool !(m.toList == n.toList), by simp only [binOp, Op.stringOp]; rfl, ?_⟩
    rw [bytes_eq]; simp [Rel]
  case lss =>
    obtain ⟨rfl, rfl⟩ := ov_inj h
    refine ⟨.bool (Op.bytesLess m.toList n.toList), by simp only [binOp, Op.stringOp]; rfl, ?_⟩
    rw [ByteArray.toList_eq, ByteArray.toList_eq]; rfl
  all_goals (cases h)

theorem s_bin {op : BinOp} {t : TypeId} {x y : Operand} (ha : Rel G a va) (hb : Rel G b vb) (h : binO op a b = some (p, v)) (hp : p) :
    ∃ v', (do eqGuard op t x y va vb; binOp op t va vb).run P w = .ok v' w ∧ Rel G v v' := by
  unfold binO at h
  split at h
  · simp only [Rel] at ha hb; subst ha; subst hb; exact s_int h hp
  · simp only [Rel] at ha hb; subst ha; subst hb; exact s_str h hp
  · cases h

theorem s_pick (hc : Rel G c vc) (ha : Rel G a va) (hb : Rel G b vb) (h : pickO c a b = some (p, v)) :
    ∃ t, vc = .bool t ∧ Rel G v (if t then va else vb) := by
  cases c <;> try (cases h; done)
  rename_i t
  simp only [Rel] at hc
  refine ⟨t, hc, ?_⟩
  unfold pickO at h
  simp only at h
  split at h
  · obtain ⟨_, rfl⟩ := ov_inj h
    simp only [Rel] at ha hb ⊢
    subst ha; subst hb; cases t <;> rfl
  · cases t
    · rw [liftV_force h]; exact hb
    · rw [liftV_force h]; exact ha

theorem run_eqGuard_pure {op : BinOp} {t : TypeId} {x y : Operand} (h1 : ∀ cs ds, ¬ (va = .agg cs ∧ vb = .agg ds)) (h2 : ¬ (va = .nilIface ∧ vb = .nilIface)) : (eqGuard op t x y va vb).run P w = .ok () w := by
  cases op <;> first | rfl | (cases va <;> first | rfl | (cases vb <;> first | rfl | exact absurd ⟨rfl, rfl⟩ h2 | exact absurd ⟨rfl, rfl⟩ (h1 _ _)))

def eqFits (k : EqK) : TypeDesc → Prop
  | .struct _ => ∃ ks, k = .flat ks
  | .bool => k = .bool
  | .slice _ => k = .slice
  | .pointer _ => k = .ptr
  | .func _ _ _ => k = .func
  | .map _ _ => k = .map
  | _ => False
theorem eqKind_fits {t : TypeId} {k : EqK} (h : eqKind P t = some k) : ∃ d, P.underlying t = some d ∧ eqFits k d := by
  unfold eqKind at h
  split at h <;> first | (cases h; refine ⟨_, by assumption, ?_⟩; rfl) | (cases h; done) | skip
  refine ⟨_, by assumption, ?_⟩
  unfold flatKs at h
  split at h
  · cases h
  · split at h
    · cases h
    · obtain ⟨ks, _, rfl⟩ := Option.map_eq_some_iff.1 h; exact ⟨ks, rfl⟩
theorem eqKind_flat {t : TypeId} {ks : List FK} (h : eqKind P t = some (.flat ks)) : ∃ fs, P.underlying t = some (.struct fs) ∧ P.stoodInHeld t = false ∧ P.eqGuardType P.depth t = false ∧ flatFs P 0 fs.toList = some ks := by
  unfold eqKind at h
  split at h <;> first | (cases h; done) | skip
  rename_i fs hd
  unfold flatKs at h
  split at h
  · cases h
  · rename_i h1
    split at h
    · cases h
    · rename_i h2
      obtain ⟨ks', h3, h4⟩ := Option.map_eq_some_iff.1 h
      cases h4
      exact ⟨fs, hd, h1, h2, h3⟩
theorem run_part1 {e : TypeId} {k : FK} (he : flatK P e = some k) {xs : Array Value} {off : Nat} {v : Value} (hx : xs[off]? = some v) : (part e xs off).run P w = .ok v w := by
  unfold flatK at he
  cases hu : P.underlying e with
  | none => simp [hu] at he
  | some d => cases d <;> simp [hu] at he <;> simp [part, isAgg, run_underlying hu, hx]
theorem eqAg_i {ks : List FK} {xs ys : List AV} {r : Bool} (h : eqAg (.i :: ks) xs ys = some r) : ∃ k a b xs' ys' r2, xs = .int k a :: xs' ∧ ys = .int k b :: ys' ∧ eqAg ks xs' ys' = some r2 ∧ r = (decide (a = b) && r2) := by
  unfold eqAg at h
  split at h <;> rename_i heq <;> try (cases heq; done)
  · cases heq
    split at h
    · rename_i hk
      split at h
      · rename_i r2 h2
        cases h
        obtain rfl := kix_eq hk
        exact ⟨_, _, _, _, _, _, rfl, rfl, h2, rfl⟩
      · cases h
    · cases h
  · cases h
theorem eqAg_s {ks : List FK} {xs ys : List AV} {r : Bool} (h : eqAg (.s :: ks) xs ys = some r) : ∃ a b xs' ys' r2, xs = .str a :: xs' ∧ ys = .str b :: ys' ∧ eqAg ks xs' ys' = some r2 ∧ r = (decide (a = b) && r2) := by
  unfold eqAg at h
  split at h <;> rename_i heq <;> try (cases heq; done)
  · cases heq
    split at h
    · rename_i r2 h2
      cases h
      exact ⟨_, _, _, _, _, rfl, rfl, h2, rfl⟩
    · cases h
  · cases h
theorem eqAg_b {ks : List FK} {xs ys : List AV} {r : Bool} (h : eqAg (.b :: ks) xs ys = some r) : ∃ a b xs' ys' r2, xs = .bool a :: xs' ∧ ys = .bool b :: ys' ∧ eqAg ks xs' ys' = some r2 ∧ r = ((a == b) && r2) := by
  unfold eqAg at h
  split at h <;> rename_i heq <;> try (cases heq; done)
  · cases heq
    split at h
    · rename_i r2 h2
      cases h
      exact ⟨_, _, _, _, _, rfl, rfl, h2, rfl⟩
    · cases h
  · cases h
theorem eqFields_flat {d : Nat} {va vb : Array Value} : ∀ {fs : List Field} {i : Nat} {ks : List FK} {xs ys : List AV} {r : Bool}, flatFs P i fs = some ks → eqAg ks xs ys = some r → RelL G xs (va.toList.drop i) → RelL G ys (vb.toList.drop i) → (Op.eqFields (d + 1) va vb fs).run P w = .ok r w
  | [], _, ks, xs, ys, r, h1, h2, _, _ => by
    simp only [flatFs] at h1; cases h1
    cases xs <;> cases ys <;> simp only [eqAg] at h2 <;> cases h2
    rfl
  | f :: fs, i, ks, xs, ys, r, h1, h2, h3, h4 => by
    simp only [flatFs] at h1
    split at h1
    · cases h1
    rename_i hn
    split at h1
    · cases h1
    rename_i ho
    split at h1
    case h_2 => cases h1
    rename_i k ks' hk hks
    cases h1
    have ho' : f.offset = i := Nat.eq_of_beq_eq_true ho
    have hn' : f.name ≠ "_" := of_decide_eq_false hn
    have step : ∀ {a b : AV} {xs' ys' : List AV} {r1 r2 : Bool}, xs = a :: xs' → ys = b :: ys' → eqAg ks' xs' ys' = some r2 → (∀ u v, Rel G a u → Rel G b v → (Op.equalIn (d + 1) f.type u v).run P w = .ok r1 w) → (Op.eqFields (d + 1) va vb (f :: fs)).run P w = .ok (r1 && r2) w := by
      intro a b xs' ys' r1 r2 e1 e2 e3 e4
      subst e1; subst e2
      obtain ⟨u, l, hu1, hu2, hu3⟩ := h3
      obtain ⟨v, m, hv1, hv2, hv3⟩ := h4
      have gu : va[f.offset]? = some u := by
        have := congrArg (·[0]?) hu1
        simpa [List.getElem?_drop, ho'] using this
      have gv : vb[f.offset]? = some v := by
        have := congrArg (·[0]?) hv1
        simpa [List.getElem?_drop, ho'] using this
      have du : va.toList.drop (i + 1) = l := by rw [← List.tail_drop, hu1]; rfl
      have dv : vb.toList.drop (i + 1) = m := by rw [← List.tail_drop, hv1]; rfl
      have ih := eqFields_flat (d := d) (va := va) (vb := vb) hks e3 (by rw [du]; exact hu3) (by rw [dv]; exact hv3)
      simp only [Op.eqFields, hn', ne_eq, not_false_eq_true, if_true, Sem.run_bind, run_part1 hk gu, run_part1 hk gv, Result.andThen_ok, e4 u v hu2 hv2]
      cases r1
      · rfl
      · simpa using ih
    have hk2 := hk
    unfold flatK at hk2
    split at hk2
    · rename_i kk hd; cases hk2
      obtain ⟨k0, a, b, xs', ys', r2, e1, e2, e3, rfl⟩ := eqAg_i h2
      exact step e1 e2 e3 fun u v hu hv => by
        simp only [Rel] at hu hv; subst hu; subst hv
        rw [run_equalIn_int w d f.type k0 kk a b hd]; rfl
    · rename_i hd; cases hk2
      obtain ⟨a, b, xs', ys', r2, e1, e2, e3, rfl⟩ := eqAg_s h2
      exact step e1 e2 e3 fun u v hu hv => by
        simp only [Rel] at hu hv; subst hu; subst hv
        rw [run_equalIn_string w d f.type a b hd, bytes_eq]
    · rename_i hd; cases hk2
      obtain ⟨a, b, xs', ys', r2, e1, e2, e3, rfl⟩ := eqAg_b h2
      exact step e1 e2 e3 fun u v hu hv => by
        simp only [Rel] at hu hv; subst hu; subst hv
        rw [run_equalIn_bool' w d f.type a b hd]
    · cases hk2
theorem s_eqnF {n : Bool} {t : TypeId} {x y : Operand} {ks : List FK} {xs ys : List AV} {r : Bool} (hk : eqKind P t = some (.flat ks)) (ha : Rel G (.agg xs) va) (hb : Rel G (.agg ys) vb) (h : eqAg ks xs ys = some r) :
    (do eqGuard (if n then .neq else .eql) t x y va vb; binOp (if n then .neq else .eql) t va vb).run P w = .ok (.bool (negB n r)) w := by
  obtain ⟨fs, hd, h1, h2, h3⟩ := eqKind_flat hk
  obtain ⟨us, rfl, ha⟩ := ha
  obtain ⟨vs, rfl, hb⟩ := hb
  have hf : P.fieldsOf t = fs := by simp [Program.fieldsOf, hd]
  have e : (Op.equalIn 10000 t (.agg us) (.agg vs)).run P w = .ok r w := by
    rw [run_equalIn_struct w 9999 t us vs (by rw [hf, hd]) h1, hf]
    exact eqFields_flat (d := 9998) h3 h (by simpa using ha) (by simpa using hb)
  rw [Sem.run_bind, run_eqGuard_agg w _ _ _ _ _ _ h2, Result.andThen_ok]
  cases n
  · show (binOp .eql t (.agg us) (.agg vs)).run P w = _
    rw [run_eql_struct, e]; rfl
  · show (binOp .neq t (.agg us) (.agg vs)).run P w = _
    rw [run_neq_struct, e]; rfl

theorem eq_bool {t : TypeId} {m n : Bool} (hd : P.underlying t = some (.bool)) : (Op.equal t (.bool m) (.bool n)).run P w = .ok (m == n) w := by
  unfold Op.equal; show (Op.equalIn (9999 + 1) _ _ _).run P w = _; unfold Op.equalIn; rw [Sem.run_bind, run_underlying hd, Result.andThen_ok]; rfl
theorem eq_slnn {t : TypeId} {u : TypeId} (hd : P.underlying t = some (.slice u)) : (Op.equal t (.slice none 0 0) (.slice none 0 0)).run P w = .ok true w := by
  unfold Op.equal; show (Op.equalIn (9999 + 1) _ _ _).run P w = _; unfold Op.equalIn; rw [Sem.run_bind, run_underlying hd, Result.andThen_ok]; rfl
theorem eq_slsn {t : TypeId} {u : TypeId} {z : Addr} {m n : Nat} (hd : P.underlying t = some (.slice u)) : (Op.equal t (.slice (some z) m n) (.slice none 0 0)).run P w = .ok false w := by
  unfold Op.equal; show (Op.equalIn (9999 + 1) _ _ _).run P w = _; unfold Op.equalIn; rw [Sem.run_bind, run_underlying hd, Result.andThen_ok]; rfl
theorem eq_slns {t : TypeId} {u : TypeId} {z : Addr} {m n : Nat} (hd : P.underlying t = some (.slice u)) : (Op.equal t (.slice none 0 0) (.slice (some z) m n)).run P w = .ok false w := by
  unfold Op.equal; show (Op.equalIn (9999 + 1) _ _ _).run P w = _; unfold Op.equalIn; rw [Sem.run_bind, run_underlying hd, Result.andThen_ok]; rfl
theorem eq_ptnn {t : TypeId} {u : TypeId} (hd : P.underlying t = some (.pointer u)) : (Op.equal t (.pointer none) (.pointer none)).run P w = .ok true w := by
  unfold Op.equal; show (Op.equalIn (9999 + 1) _ _ _).run P w = _; unfold Op.equalIn; rw [Sem.run_bind, run_underlying hd, Result.andThen_ok]; rfl
theorem eq_ptsn {t : TypeId} {u : TypeId} {z : Addr} (hd : P.underlying t = some (.pointer u)) : (Op.equal t (.pointer (some z)) (.pointer none)).run P w = .ok false w := by
  unfold Op.equal; show (Op.equalIn (9999 + 1) _ _ _).run P w = _; unfold Op.equalIn; rw [Sem.run_bind, run_underlying hd, Result.andThen_ok]; rfl
theorem eq_fnn {t : TypeId} {u u' : Array TypeId} {f : Bool} (hd : P.underlying t = some (.func u u' f)) : (Op.equal t (.nilFunc) (.nilFunc)).run P w = .ok true w := by
  unfold Op.equal; show (Op.equalIn (9999 + 1) _ _ _).run P w = _; unfold Op.equalIn; rw [Sem.run_bind, run_underlying hd, Result.andThen_ok]; rfl
theorem eq_fsn {t : TypeId} {u u' : Array TypeId} {f : Bool} {g : Fn} {x y : Array Value} (hd : P.underlying t = some (.func u u' f)) : (Op.equal t (.func g x y) (.nilFunc)).run P w = .ok false w := by
  unfold Op.equal; show (Op.equalIn (9999 + 1) _ _ _).run P w = _; unfold Op.equalIn; rw [Sem.run_bind, run_underlying hd, Result.andThen_ok]; rfl
theorem negB_bne (n b : Bool) : (if n then !b else b) = negB n b := by cases n <;> rfl

theorem s_eqn {n : Bool} {t : TypeId} {x y : Operand} {k : EqK} (hk : eqKind P t = some k) (ha : Rel G a va) (hb : Rel G b vb) (h : eqnO k n a b = some (p, v)) (hp : p) :
    ∃ v', (do eqGuard (if n then .neq else .eql) t x y va vb; binOp (if n then .neq else .eql) t va vb).run P w = .ok v' w ∧ Rel G v v' := by
  by_cases hfl : ∃ ks xs ys, k = .flat ks ∧ a = .agg xs ∧ b = .agg ys
  · obtain ⟨ks, xs, ys, rfl, rfl, rfl⟩ := hfl
    simp only [eqnO] at h
    split at h
    · rename_i r hr
      cases n <;> (obtain ⟨_, rfl⟩ := ov_inj h; exact ⟨_, s_eqnF hk ha hb hr, rfl⟩)
    · cases h
  obtain ⟨d, hd, hf⟩ := eqKind_fits hk
  have fin : ∀ r, (∀ cs ds, ¬ (va = .agg cs ∧ vb = .agg ds)) → ¬ (va = .nilIface ∧ vb = .nilIface) → (∀ op, op = .eql ∨ op = .neq → binOp op t va vb = (if op = .eql then (do pure (.bool (← Op.equal t va vb))) else (do pure (.bool (!(← Op.equal t va vb)))) : Sem Value)) →
      (Op.equal t va vb).run P w = .ok r w → v = .bool (negB n r) →
      ∃ v', (do eqGuard (if n then .neq else .eql) t x y va vb; binOp (if n then .neq else .eql) t va vb).run P w = .ok v' w ∧ Rel G v v' := by
    intro r h1 h2 h3 h4 h5
    refine ⟨.bool (negB n r), ?_, by rw [h5]; rfl⟩
    rw [Sem.run_bind, run_eqGuard_pure h1 h2, Result.andThen_ok]
    cases n
    · rw [if_neg (by simp), h3 .eql (.inl rfl), if_pos rfl, Sem.run_bind, h4]; rfl
    · rw [if_pos rfl, h3 .neq (.inr rfl), if_neg (by simp), Sem.run_bind, h4]; rfl
  unfold eqnO at h
  simp only [eqB_eq] at h
  split at h
  all_goals (try (cases h; done))
  all_goals (split at h <;> try (cases h; done))
  all_goals first | exact absurd ⟨_, _, _, rfl, rfl, rfl⟩ hfl | skip
  all_goals (obtain ⟨hq, hv⟩ := ov_inj h)
  all_goals (cases d <;> simp only [eqFits, reduceCtorEq, exists_false] at hf)
  · -- bool
    simp only [Rel] at ha hb; subst ha; subst hb
    exact fin _ (by simp) (by simp) (by rintro op (rfl | rfl) <;> rfl) (eq_bool hd) hv.symm
  · simp only [Rel] at ha hb; subst ha; subst hb
    exact fin true (by simp) (by simp) (by rintro op (rfl | rfl) <;> rfl) (eq_slnn hd) hv.symm
  · simp only [Rel] at hb; subst hb
    subst hq
    rcases ha with ⟨_, he⟩ | ⟨b, o, cap, rfl, _⟩
    · exact absurd he hp
    · exact fin false (by simp) (by simp) (by rintro op (rfl | rfl) <;> rfl) (eq_slsn hd) hv.symm
  · simp only [Rel] at ha; subst ha
    subst hq
    rcases hb with ⟨_, he⟩ | ⟨b, o, cap, rfl, _⟩
    · exact absurd he hp
    · exact fin false (by simp) (by simp) (by rintro op (rfl | rfl) <;> rfl) (eq_slns hd) hv.symm
  · simp only [Rel] at ha hb; subst ha; subst hb
    exact fin true (by simp) (by simp) (by rintro op (rfl | rfl) <;> rfl) (eq_ptnn hd) hv.symm
  · simp only [Rel] at hb; subst hb
    obtain ⟨b, lim, rfl, _⟩ := ha
    exact fin false (by simp) (by simp) (by rintro op (rfl | rfl) <;> rfl) (eq_ptsn hd) hv.symm
  · simp only [Rel] at hb; subst hb
    obtain ⟨b, lim, rfl, _⟩ := ha
    exact fin false (by simp) (by simp) (by rintro op (rfl | rfl) <;> rfl) (eq_ptsn hd) hv.symm
  · simp only [Rel] at ha hb; subst ha; subst hb
    exact fin true (by simp) (by simp) (by rintro op (rfl | rfl) <;> rfl) (eq_fnn hd) hv.symm
  · simp only [Rel] at hb; subst hb
    obtain ⟨f, c, rfl, _⟩ := ha
    exact fin false (by simp) (by simp) (by rintro op (rfl | rfl) <;> rfl) (eq_fsn hd) hv.symm
end
end Go.Abs

namespace Go.Abs
theorem RelRow.toPure {G : GS} {b : Nat} : ∀ {o : Nat} {l : List AV}, RelRow G b o l → RelRow (GS.pure G.K) b o l
  | _, [], _ => trivial
  | _, _ :: _, ⟨h1, h3⟩ => ⟨h1, h3.toPure⟩
theorem RelRows.toPure {G : GS} {b sz : Nat} : ∀ {o : Nat} {l : List (List AV)}, RelRows G b o sz l → RelRows (GS.pure G.K) b o sz l
  | _, [], _ => trivial
  | _, _ :: _, ⟨h1, h2, h3⟩ => ⟨h1, h2.toPure, h3.toPure⟩
theorem stripL_length : ∀ l : List AV, (stripL l).length = l.length
  | [] => rfl
  | a :: l => by simp [stripL, stripL_length l]
theorem stripL_map {α : Type} (f : α → AV) : ∀ l : List α, stripL (l.map f) = l.map fun x => (f x).strip
  | [] => rfl
  | a :: l => by simp [stripL, stripL_map f l]
theorem stripL_append : ∀ l m : List AV, stripL (l ++ m) = stripL l ++ stripL m
  | [], m => rfl
  | a :: l, m => by simp [stripL, stripL_append l m]

mutual
theorem Rel.strip {G : GS} : ∀ {a : AV} {v : Value}, Rel G a v → Rel (GS.pure G.K) a.strip v
  | .junk, _, _ => trivial
  | .int _ _, _, hh => hh
  | .bool _, _, hh => hh
  | .str _, _, hh => hh
  | .nsl, _, hh => hh
  | .npt, _, hh => hh
  | .nfn, _, hh => hh
  | .nif, _, hh => hh
  | .nmp, _, hh => hh
  | .slc sz es .non, _, hh => hh.imp id fun ⟨b, o, cap, h1, h2, h3, h4⟩ => ⟨b, o, cap, h1, h2, h3.toPure, trivial⟩
  | .slc sz es .full, _, hh => hh.imp id fun ⟨b, o, cap, h1, h2, h3, h4⟩ => ⟨b, o, cap, h1, h2, h3.toPure, h4⟩
  | .slc sz es (.own _ _), _, hh => hh.imp id fun ⟨b, o, cap, h1, h2, h3, h4⟩ => ⟨b, o, cap, h1, h2, h3.toPure, trivial⟩
  | .msl _ _ _ _, _, _ => trivial
  | .pin _, _, ⟨b, o, h1, h2⟩ => ⟨b, o, h1, h2.toPure⟩
  | .ref _ _ _, _, _ => trivial
  | .agg _, _, ⟨vs, h1, h2⟩ => ⟨vs, h1, RelL.strip h2⟩
  | .tup _, _, ⟨vs, h1, h2⟩ => ⟨vs, h1, RelL.strip h2⟩
  | .clo _ _ _, _, ⟨f, c, h1, h2, h3⟩ => ⟨f, c, h1, RelL.strip h2, RelL.strip h3⟩
  | .ifc _ _, _, ⟨y, h1, h2⟩ => ⟨y, h1, Rel.strip h2⟩
  | .map _ _, _, _ => trivial
theorem RelL.strip {G : GS} : ∀ {l : List AV} {vs : List Value}, RelL G l vs → RelL (GS.pure G.K) (stripL l) vs
  | [], _, hh => hh
  | _ :: _, _, ⟨v, r, h1, h2, h3⟩ => ⟨v, r, h1, Rel.strip h2, RelL.strip h3⟩
end

theorem Rel.norm {G : GS} {a : AV} {v : Value} (h : Rel G a v) : Rel (GS.pure G.K) a.norm v := by
  cases a <;> first | exact Rel.strip h | skip
  rcases h with h | ⟨b, o, cap, h1, h2, h3, h4⟩
  · exact .inl h
  · exact .inr ⟨b, o, cap, h1, h2, h3.toPure, trivial⟩
theorem RelL.norm {G : GS} : ∀ {l : List AV} {vs : List Value}, RelL G l vs → RelL (GS.pure G.K) (normL l) vs
  | [], _, hh => hh
  | _ :: _, _, ⟨v, r, h1, h2, h3⟩ => ⟨v, r, h1, h2.norm, RelL.norm h3⟩
section
variable {P : Program} {G : GS} {w : World} {a b c v : AV} {p : Prop} {va vb vc : Value}

theorem RelRow.getp {b : Nat} : ∀ {l : List AV} {o : Nat}, RelRow G b o l → ∀ j a, l[j]? = some a → ∃ v, G.K b (o + j) = some v ∧ Rel (GS.pure G.K) a v
  | x :: l, o, ⟨h, _⟩, 0, a, hj => by simp at hj; subst hj; simpa using h
  | x :: l, o, ⟨_, h⟩, j + 1, a, hj => by
    have := RelRow.getp h j a (by simpa using hj)
    rwa [show o + 1 + j = o + (j + 1) by omega] at this
theorem RelRow.get {b : Nat} {l : List AV} {o : Nat} (h : RelRow G b o l) (j : Nat) (a : AV) (hj : l[j]? = some a) : ∃ v, G.K b (o + j) = some v ∧ Rel G a v := by
  obtain ⟨v, h1, h2⟩ := h.getp j a hj; exact ⟨v, h1, h2.mono G.pure_le⟩
theorem RelRow.of_get {b : Nat} : ∀ {l : List AV} {o : Nat}, (∀ j a, l[j]? = some a → ∃ v, G.K b (o + j) = some v ∧ Rel (GS.pure G.K) a v) → RelRow G b o l
  | [], _, _ => trivial
  | x :: l, o, h => ⟨by simpa using h 0 x rfl, RelRow.of_get fun j a hj => by
      have := h (j + 1) a (by simpa using hj)
      rwa [show o + (j + 1) = o + 1 + j by omega] at this⟩
theorem RelRow.drop {b o : Nat} {l : List AV} (h : RelRow G b o l) (k : Nat) : RelRow G b (o + k) (l.drop k) :=
  .of_get fun j a hj => by
    rw [List.getElem?_drop] at hj
    have := h.getp _ _ hj
    rwa [show o + (k + j) = o + k + j by omega] at this
theorem RelRow.take {b o : Nat} {l : List AV} (h : RelRow G b o l) (k : Nat) : RelRow G b o (l.take k) :=
  .of_get fun j a hj => by
    rw [List.getElem?_take] at hj
    split at hj
    · exact h.getp _ _ hj
    · cases hj

theorem RelRows.get {b sz : Nat} : ∀ {es : List (List AV)} {o : Nat}, RelRows G b o sz es → ∀ i, i < es.length → RelRow G b (o + i * sz) (es.getD i []) ∧ (es.getD i []).length = sz
  | e :: es, o, ⟨h1, h2, _⟩, 0, _ => by simpa using ⟨h2, h1⟩
  | e :: es, o, ⟨_, _, h⟩, i + 1, hi => by
    have := RelRows.get h i (by simpa using hi)
    rw [show o + sz + i * sz = o + (i + 1) * sz by rw [Nat.add_mul]; omega] at this
    simpa using this
theorem RelRows.of_get {b sz : Nat} : ∀ {es : List (List AV)} {o : Nat}, (∀ i, i < es.length → RelRow G b (o + i * sz) (es.getD i []) ∧ (es.getD i []).length = sz) → RelRows G b o sz es
  | [], _, _ => trivial
  | e :: es, o, h => by
    have h0 := h 0 (by simp)
    refine ⟨by simpa using h0.2, by simpa using h0.1, RelRows.of_get fun i hi => ?_⟩
    have := h (i + 1) (by simpa using hi)
    rw [show o + (i + 1) * sz = o + sz + i * sz by rw [Nat.add_mul]; omega] at this
    simpa using this

def CellsAt (G : GS) (w : World) (b o : Nat) (cells : List AV) : Prop := ∀ j a, cells[j]? = some a → ∃ v, w.cell? ⟨b, o + j, none⟩ = some v ∧ Rel G a v

theorem CellsAt.list {w : World} {b : Nat} : ∀ {l : List AV} {o : Nat} (_ : CellsAt G w b o l), ∃ cs : List Value, RelL G l cs ∧ ∀ (j : Nat) (v : Value), cs[j]? = some v → w.cell? ⟨b, o + j, none⟩ = some v
  | [], _, _ => ⟨[], rfl, by simp⟩
  | x :: l, o, h => by
    obtain ⟨v, hv, hr⟩ := h 0 x rfl
    obtain ⟨cs, hl, hc⟩ := CellsAt.list (l := l) (o := o + 1) (w := w) (b := b) fun j a hj => by
      have := h (j + 1) a (by simpa using hj)
      rwa [show o + (j + 1) = o + 1 + j by omega] at this
    refine ⟨v :: cs, ⟨v, cs, rfl, hr, hl⟩, fun j u hj => ?_⟩
    cases j with
    | zero => simp at hj; subst hj; simpa using hv
    | succ j =>
      have := hc j u (by simpa using hj)
      rwa [show o + 1 + j = o + (j + 1) by omega] at this
theorem RelL.length : ∀ {l : List AV} {cs : List Value}, RelL G l cs → cs.length = l.length
  | [], _, h => by simp only [RelL] at h; subst h; rfl
  | _ :: _, _, ⟨_, _, rfl, _, h⟩ => by simp [RelL.length h]
theorem RelL.get : ∀ {l : List AV} {cs : List Value}, RelL G l cs → ∀ (j : Nat) (a : AV), l[j]? = some a → ∃ v, cs[j]? = some v ∧ Rel G a v
  | _ :: _, _, ⟨v, _, rfl, h, _⟩, 0, a, hj => by simp at hj; subst hj; exact ⟨v, rfl, h⟩
  | _ :: _, _, ⟨_, _, rfl, _, h⟩, j + 1, a, hj => by simpa using RelL.get h j a (by simpa using hj)
theorem RelL.of_get : ∀ {l : List AV} {cs : List Value}, cs.length = l.length → (∀ (j : Nat) (a : AV), l[j]? = some a → ∃ v, cs[j]? = some v ∧ Rel G a v) → RelL G l cs
  | [], cs, hl, _ => List.eq_nil_of_length_eq_zero (by simpa using hl)
  | x :: l, [], hl, _ => by simp at hl
  | x :: l, v :: cs, hl, h => by
    obtain ⟨u, hu, hr⟩ := h 0 x rfl
    simp at hu; subst hu
    exact ⟨v, cs, rfl, hr, RelL.of_get (by simpa using hl) fun j a hj => by simpa using h (j + 1) a (by simpa using hj)⟩

theorem run_isAgg {t : TypeId} {g : Bool} (h : aggOf P t = some g) : (isAgg t).run P w = .ok g w := by
  unfold aggOf at h
  unfold isAgg
  split at h
  · cases h; rename_i hu; simp [run_underlying hu]
  · cases h; rename_i hu; simp [run_underlying hu]
  · cases h; rename_i d h1 h2 hu
    rw [Sem.run_bind, run_underlying hu, Result.andThen_ok]
    cases d <;> first | rfl | exact absurd rfl (h1 _) | exact absurd rfl (h2 _ _)
  · cases h
theorem run_szOf {t : TypeId} {n : Nat} (h : szOf P t = some n) : (sizeOf t).run P w = .ok n w := by
  unfold szOf at h
  cases hi : P.info? t with
  | none => simp [hi] at h
  | some i => simp [hi] at h; subst h; simp [sizeOf, run_typeInfo w hi]

theorem run_loadVar {t : TypeId} {sz : Nat} {g : Bool} {b o off : Nat} {cells : List AV} (hs : szOf P t = some sz) (hg : aggOf P t = some g) (hc : CellsAt G w b o cells)
    (h : partO off sz g cells = some (p, v)) (hp : p) : ∃ v', (loadVar t ⟨b, o + off, none⟩).run P w = .ok v' w ∧ Rel G v v' := by
  unfold loadVar
  rw [Sem.run_bind, run_isAgg hg, Result.andThen_ok]
  cases g with
  | false =>
    simp only [partO] at h
    cases hj : cells[off]? with
    | none => simp [hj] at h
    | some x =>
      simp only [hj] at h
      rw [liftV_force h]
      obtain ⟨u, hu, hr⟩ := hc off x hj
      exact ⟨u, by simp [hu], hr⟩
  | true =>
    simp only [partO] at h
    obtain ⟨rfl, rfl⟩ := ov_inj h
    obtain ⟨cs, hl, hcs⟩ := CellsAt.list (G := G) (w := w) (b := b) (o := o + off) (l := (cells.drop off).take sz) fun j a hj => by
      rw [List.getElem?_take] at hj
      split at hj
      · rw [List.getElem?_drop] at hj
        have := hc _ _ hj
        rwa [show o + (off + j) = o + off + j by omega] at this
      · cases hj
    have hlen : cs.length = sz := by rw [hl.length]; simp; omega
    have hrun := run_loadCells_list (P := P) (w := w) ⟨b, o + off, none⟩ cs (fun j v hj => by
      rw [Addr.add_lit]; exact hcs j v hj)
    refine ⟨.agg cs.toArray, ?_, ⟨_, rfl, by simpa using hl⟩⟩
    simp only [if_true, Sem.run_bind, run_szOf hs, Result.andThen_ok]
    rw [← hlen, hrun]
    rfl

theorem s_ld {t : TypeId} {sz : Nat} {g : Bool} {σ : Sig} (hI : Inv G σ w) (hs : szOf P t = some sz) (hg : aggOf P t = some g) (ha : Rel G a va)
    (h : ldO sz g σ a = some (p, v)) (hp : p) : ∃ v', (Instr.loadAt t va).run P w = .ok v' w ∧ Rel G v v' := by
  unfold Instr.loadAt
  unfold ldO at h
  split at h
  · rename_i cells
    obtain ⟨b, o, rfl, hr⟩ := ha
    have := run_loadVar (o := o) hs hg (fun j a hj => by obtain ⟨u, h1, h2⟩ := hr.get j a hj; exact ⟨u, hI.kok.cell _ _ _ h1, h2⟩) h hp
    simpa [Instr.sureAddr] using this
  · rename_i i g' off
    split at h
    · rename_i g'' c hσ
      split at h
      · rename_i q u hq
        obtain ⟨rfl, rfl⟩ := ov_inj h
        obtain ⟨rfl, hp⟩ := hp
        obtain ⟨b, lim, rfl, hm⟩ := ha
        rcases hI.res i c (by rw [hσ]) with ⟨rfl, hn⟩ | ⟨b', e', lim', vals, T, hR⟩
        · rw [hσ] at hn; simp only at hn; rw [hm] at hn; cases hn
        · rw [hσ] at hR
          have hm' := hR.m
          simp only at hm'
          rw [hm] at hm'
          cases hm'
          have := run_loadVar (w := w) (G := G) (o := 0) (b := b) (off := off) hs hg (fun j a hj => by
            obtain ⟨u, h1, h2⟩ := hR.rel j a hj
            exact ⟨u, by simp [World.cell?, hR.obj]; simpa using h1, h2⟩) hq hp
          simpa [Instr.sureAddr] using this
      · cases h
    · cases h
  · cases h
end
end Go.Abs

namespace Go.Abs
section
variable {P : Program} {G : GS} {w : World} {a b c v : AV} {p : Prop} {va vb vc : Value}

theorem s_len {t ty : TypeId} {str : Bool} (ht : match str with | true => P.underlying t = some .string | false => ∃ e, P.underlying t = some (.slice e)) (ha : Rel G a va) (h : lenO str a = some (p, v)) :
    ∃ v', (Builtin.len_ #[t] ty #[va]).run P w = .ok v' w ∧ Rel G v v' := by
  unfold lenO at h
  split at h
  · cases str <;> simp only at h ht <;> try (cases h; done)
    obtain ⟨e, he⟩ := ht
    simp only [Rel] at ha; subst ha
    obtain ⟨_, rfl⟩ := ov_inj h
    exact ⟨_, by simp [Builtin.len_, run_underlying he, goInt], rfl⟩
  · cases str <;> simp only at h ht <;> try (cases h; done)
    obtain ⟨e, he⟩ := ht
    obtain ⟨_, rfl⟩ := ov_inj h
    rcases ha with ⟨rfl, rfl⟩ | ⟨b, o, cap, rfl, _⟩
    · exact ⟨_, by simp [Builtin.len_, run_underlying he, goInt], rfl⟩
    · exact ⟨_, by simp [Builtin.len_, run_underlying he, goInt], rfl⟩
  · cases str <;> simp only at h ht <;> try (cases h; done)
    obtain ⟨e, he⟩ := ht
    obtain ⟨_, rfl⟩ := ov_inj h
    obtain ⟨b, cap, rfl, _⟩ := ha
    exact ⟨_, by simp [Builtin.len_, run_underlying he, goInt], rfl⟩
  · cases str <;> simp only at h ht <;> try (cases h; done)
    simp only [Rel] at ha; subst ha
    obtain ⟨_, rfl⟩ := ov_inj h
    exact ⟨_, by simp [Builtin.len_, run_underlying ht, goInt], rfl⟩
  · cases h

theorem s_ixA {t u : TypeId} {sz : Nat} (ht : P.underlying t = some (.slice u)) (hs : szOf P u = some sz) (ha : Rel G a va) (hb : Rel G b vb) (h : ixAO sz a b = some (p, v)) (hp : p) :
    ∃ v', (Instr.indexAt t va vb).run P w = .ok v' w ∧ Rel G v v' := by
  unfold ixAO at h
  split at h
  · rename_i sz' es tg k i
    obtain ⟨rfl, rfl⟩ := ov_inj h
    obtain ⟨rfl, h0, h1⟩ := hp
    simp only [Rel] at hb; subst hb
    rcases ha with ⟨_, rfl⟩ | ⟨b, o, cap, rfl, _, hr, _⟩
    · simp at h1; omega
    · obtain ⟨hg, _⟩ := hr.get i.toNat (by omega)
      refine ⟨_, ?_, ⟨b, o + i.toNat * sz', rfl, hg⟩⟩
      simp [Instr.indexAt, asIntOf, run_underlying ht, h0, h1, run_szOf hs, Addr.add_lit]
  · rename_i i' g n sz' k i
    obtain ⟨rfl, rfl⟩ := ov_inj h
    obtain ⟨rfl, h0, h1⟩ := hp
    simp only [Rel] at hb; subst hb
    obtain ⟨b, cap, rfl, _, hm⟩ := ha
    refine ⟨_, ?_, ⟨b, _, rfl, hm⟩⟩
    simp [Instr.indexAt, asIntOf, run_underlying ht, h0, h1, run_szOf hs, Addr.add_lit]
  · cases h

theorem s_ixAr {t u : TypeId} {n sz : Nat} (ht : P.underlying t = some (.array n u)) (hs : szOf P u = some sz) (ha : Rel G a va) (hb : Rel G b vb) (h : ixArO n sz a b = some (p, v)) (hp : p) :
    ∃ v', (Instr.indexAt t va vb).run P w = .ok v' w ∧ Rel G v v' := by
  unfold ixArO at h
  split at h
  · rename_i i' g off k i
    obtain ⟨rfl, rfl⟩ := ov_inj h
    obtain ⟨h0, h1⟩ := hp
    simp only [Rel] at hb; subst hb
    obtain ⟨b, lim, rfl, hm⟩ := ha
    refine ⟨_, ?_, ⟨b, _, rfl, hm⟩⟩
    simp [Instr.indexAt, Instr.sureAddr, asIntOf, run_underlying ht, h0, h1, run_szOf hs, Addr.add_lit]
  · rename_i cells k i
    obtain ⟨rfl, rfl⟩ := ov_inj h
    obtain ⟨h0, h1, _⟩ := hp
    simp only [Rel] at hb; subst hb
    obtain ⟨b, o, rfl, hr⟩ := ha
    refine ⟨_, ?_, ⟨b, o + i.toNat * sz, rfl, hr.drop _⟩⟩
    simp [Instr.indexAt, Instr.sureAddr, asIntOf, run_underlying ht, h0, h1, run_szOf hs, Addr.add_lit]
  · cases h

theorem s_part {t : TypeId} {off sz : Nat} {g : Bool} {cells : List AV} {cs : Array Value} (hs : szOf P t = some sz) (hg : aggOf P t = some g) (hr : RelL G cells cs.toList)
    (h : partO off sz g cells = some (p, v)) (hp : p) : ∃ v', (part t cs off).run P w = .ok v' w ∧ Rel G v v' := by
  unfold part
  rw [Sem.run_bind, run_isAgg hg, Result.andThen_ok]
  cases g with
  | false =>
    simp only [partO] at h
    cases hj : cells[off]? with
    | none => simp [hj] at h
    | some x =>
      simp only [hj] at h
      rw [liftV_force h]
      obtain ⟨u, hu, hx⟩ := hr.get off x hj
      exact ⟨u, by have : cs[off]? = some u := by simpa using hu
                   simp [this], hx⟩
  | true =>
    simp only [partO] at h
    obtain ⟨rfl, rfl⟩ := ov_inj h
    refine ⟨.agg (cs.extract off (off + sz)), by simp [run_szOf hs], ⟨_, rfl, RelL.of_get ?_ fun j a hj => ?_⟩⟩
    · have := hr.length
      simp at this ⊢; omega
    · rw [List.getElem?_take] at hj
      split at hj
      · rw [List.getElem?_drop] at hj
        obtain ⟨u, hu, hx⟩ := hr.get _ _ hj
        refine ⟨u, ?_, hx⟩
        have hl : off + j < cs.size := by
          have := List.getElem?_eq_some_iff.1 hu
          simpa using this.1
        simp only [Array.toList_extract, List.extract_eq_take_drop, List.getElem?_take, List.getElem?_drop]
        rw [if_pos (by omega)]; exact hu
      · cases hj

theorem s_ixV {t u : TypeId} {n sz : Nat} {g : Bool} {q : Prop} (ht : P.underlying t = some (.array n u)) (hs : szOf P u = some sz) (hg : aggOf P u = some g) (ha : Rel G a va) (hb : Rel G b vb)
    (h : ixVO n sz g a b = some (p, q, v)) (hp : p) (hq : q) : ∃ v', (Instr.index t va vb).run P w = .ok v' w ∧ Rel G v v' := by
  unfold ixVO at h
  split at h
  · rename_i cells k i
    split at h
    · rename_i c v' hpart
      injection h with h; injection h with h1 h2; injection h2 with h2 h3
      subst h1; subst h2; subst h3
      simp only [Rel] at hb; subst hb
      obtain ⟨vs, rfl, hr⟩ := ha
      obtain ⟨v', hrun, hv⟩ := s_part (w := w) hs hg hr hpart hq
      exact ⟨v', by simp [Instr.index, asIntOf, run_underlying ht, hp.1, hp.2, run_szOf hs, hrun], hv⟩
    · cases h
  · cases h

theorem s_ixS {t : TypeId} (ht : P.underlying t = some .string) (ha : Rel G a va) (hb : Rel G b vb) (h : ixSO a b = some (p, v)) (hp : p) :
    ∃ v', (Instr.index t va vb).run P w = .ok v' w ∧ Rel G v v' := by
  unfold ixSO at h
  split at h
  · rename_i s k i
    obtain ⟨rfl, rfl⟩ := ov_inj h
    simp only [Rel] at ha hb; subst ha; subst hb
    obtain ⟨h0, h1⟩ := hp
    have hlt : i.toNat < s.size := by omega
    have hb' : s[i.toNat]? = some (s.data.toList.getD i.toNat 0) := by
      rw [getElem?_pos s i.toNat hlt]
      congr 1
      rw [List.getD_eq_getElem?_getD, List.getElem?_eq_getElem (by simpa using hlt)]
      rfl
    exact ⟨_, by simp only [Instr.index, asIntOf, Sem.run_bind, Sem.run_pure, Result.andThen_ok, run_underlying ht, if_pos h0, hb'], rfl⟩
  · cases h

theorem s_flA {t : TypeId} {fields : Array Field} {n sz : Nat} {f : Field} (ht : P.underlying t = some (.struct fields)) (hf : fields[n]? = some f) (hs : szOf P f.type = some sz) (hz : sz ≠ 0)
    (ha : Rel G a va) (h : flAO f.offset a = some (p, v)) (hp : p) : ∃ v', (Instr.fieldAt t va n).run P w = .ok v' w ∧ Rel G v v' := by
  unfold flAO at h
  split at h
  · obtain ⟨rfl, rfl⟩ := ov_inj h
    obtain ⟨b, lim, rfl, hm⟩ := ha
    refine ⟨_, ?_, ⟨b, lim, rfl, hm⟩⟩
    simp [Instr.fieldAt, Instr.sureAddr, run_underlying ht, hf, fieldPlace, run_szOf hs, hz, Addr.add_lit]
  · obtain ⟨rfl, rfl⟩ := ov_inj h
    obtain ⟨b, o, rfl, hr⟩ := ha
    refine ⟨_, ?_, ⟨b, o + f.offset, rfl, hr.drop _⟩⟩
    simp [Instr.fieldAt, Instr.sureAddr, run_underlying ht, hf, fieldPlace, run_szOf hs, hz, Addr.add_lit]
  · cases h

theorem s_fl {t : TypeId} {fields : Array Field} {n sz : Nat} {g : Bool} {f : Field} (ht : P.underlying t = some (.struct fields)) (hf : fields[n]? = some f) (hs : szOf P f.type = some sz) (hg : aggOf P f.type = some g)
    (ha : Rel G a va) (h : flO f.offset sz g a = some (p, v)) (hp : p) : ∃ v', (Instr.field t va n).run P w = .ok v' w ∧ Rel G v v' := by
  unfold flO at h
  split at h
  · obtain ⟨vs, rfl, hr⟩ := ha
    obtain ⟨v', hrun, hv⟩ := s_part (w := w) hs hg hr h hp
    exact ⟨v', by simp [Instr.field, run_underlying ht, hf, asAgg, hrun], hv⟩
  · cases h

theorem s_nck {x : Operand} {ρ : Operand → Value} {dst : Option Nat} {ty : TypeId} {pos : String} {af : Array Edge} {gd : Option (Nat × Bool)} (ha : Rel G a (ρ x)) (h : nckO a = some (p, v)) :
    ∃ v', (execOp ρ ⟨dst, .nilCheck x, ty, pos, af, gd⟩).run P w = .ok (.value v') w ∧ Rel G v v' := by
  unfold nckO at h
  split at h
  · obtain ⟨_, rfl⟩ := ov_inj h
    obtain ⟨b, lim, hv, hm⟩ := ha
    exact ⟨_, by simp only [execOp, hv]; rfl, ⟨b, lim, rfl, hm⟩⟩
  · obtain ⟨_, rfl⟩ := ov_inj h
    obtain ⟨b, o, hv, hm⟩ := ha
    exact ⟨_, by simp only [execOp, hv]; rfl, ⟨b, o, rfl, hm⟩⟩
  · obtain ⟨_, rfl⟩ := ov_inj h
    obtain ⟨f, c, hv, hm⟩ := ha
    exact ⟨_, by simp only [execOp, hv]; rfl, ⟨f, c, rfl, hm⟩⟩
  · cases h

theorem s_cvI {s d : TypeId} {k k' : IntKind} (hs : P.underlying s = some (.int k')) (hd : P.underlying d = some (.int k)) (ha : Rel G a va) (h : cvIO k a = some (p, v)) (hp : p) :
    ∃ v', (convert s d va).run P w = .ok v' w ∧ Rel G v v' := by
  unfold cvIO at h
  split at h
  · obtain ⟨_, rfl⟩ := fitV_rel h hp
    simp only [Rel] at ha; subst ha
    exact ⟨_, by simp [convert, run_underlying hs, run_underlying hd, Conv.intToInt], rfl⟩
  · cases h

theorem s_ext {i : Nat} (ha : Rel G a va) (h : extO i a = some (p, v)) : ∃ v', (Instr.extract va i).run P w = .ok v' w ∧ Rel G v v' := by
  unfold extO at h
  split at h
  · split at h
    · rename_i u hu
      rw [liftV_force h]
      obtain ⟨vs, rfl, hr⟩ := ha
      obtain ⟨x, hx, hxr⟩ := hr.get _ _ hu
      have : vs[i]? = some x := by simpa using hx
      exact ⟨x, by simp [Instr.extract, this], hxr⟩
    · cases h
  · cases h

theorem cOpds_rel {e : Nat → AV} {ρ : Operand → Value} (hρ : ORel G e ρ) : ∀ {xs : List Operand} {ys : List IOpd} {l : List AV}, cOpds xs = some ys → evO e ys = some l → RelL G l (xs.map ρ)
  | [], ys, l, h, h2 => by
    simp [cOpds] at h; subst h
    simp [evO] at h2; subst h2; rfl
  | x :: xs, ys, l, h, h2 => by
    simp only [cOpds, Option.bind_eq_bind, Option.bind_eq_some_iff] at h
    obtain ⟨y, hy, r, hr, h⟩ := h
    cases h
    simp only [evO] at h2
    split at h2
    · rename_i v l' hv hl
      cases h2
      exact ⟨_, _, rfl, by rw [forceA_eq hv]; exact hρ _ _ hy, cOpds_rel hρ hr hl⟩
    · cases h2

theorem s_mxi {m : Bool} {ts : Array TypeId} {ty : TypeId} (ha : Rel G a va) (hb : Rel G b vb) (h : mxiO m a b = some (p, v)) :
    ∃ v', (if m then Builtin.max_ ts ty #[va, vb] else Builtin.min_ ts ty #[va, vb]).run P w = .ok v' w ∧ Rel G v v' := by
  unfold mxiO at h
  split at h
  · rename_i k m' k' n'
    split at h
    · rename_i hk
      obtain rfl := kix_eq hk
      obtain ⟨_, rfl⟩ := ov_inj h
      simp only [Rel] at ha hb; subst ha; subst hb
      cases m
      · refine ⟨_, ?_, rfl⟩
        simp [Builtin.min_, Builtin.min2]
        by_cases e : m' ≤ n' <;> simp [Int.min_def, e] <;> omega
      · refine ⟨_, ?_, rfl⟩
        simp [Builtin.max_, Builtin.max2]
        by_cases e : m' ≤ n' <;> simp [Int.max_def, e] <;> omega
    · cases h
  · cases h
end
end Go.Abs

namespace Go.Abs
section
variable {P : Program} {G : GS} {w : World} {a b c v : AV} {p : Prop} {va vb vc : Value}

theorem boundO_rel {e : Nat → AV} {ρ : Operand → Value} (hρ : ORel G e ρ) {x : Option Operand} {y : Option IOpd} {d i : Int} (hc : cOptOpd x = some y) (h : boundO e d y = some i) :
    (x = none ∧ i = d) ∨ ∃ o k, x = some o ∧ ρ o = .int k i := by
  cases x with
  | none => simp [cOptOpd] at hc; subst hc; simp [boundO] at h; exact .inl ⟨rfl, h.symm⟩
  | some o =>
    simp only [cOptOpd, Option.map_eq_some_iff] at hc
    obtain ⟨z, hz, rfl⟩ := hc
    simp only [boundO] at h
    split at h
    · rename_i k j hj
      cases h
      have := hρ _ _ hz
      rw [hj] at this
      exact .inr ⟨o, k, rfl, this⟩
    · cases h

theorem run_bound {k : IntKind} {i : Int} {y : Nat} {code : BoundsCode} (h : 0 ≤ i ∧ i ≤ y) : (Instr.sliceBound (.int k i) y code).run P w = .ok i.toNat w := by
  simp [Instr.sliceBound, asIntOf, h.1, h.2]

/-- The bounds of a slice expression, all within the length. -/
theorem run_bounds {e : Nat → AV} {ρ : Operand → Value} (hρ : ORel G e ρ) {lo hi mx : Option Operand} {lo' hi' mx' : Option IOpd} {n cap : Nat} {l h : Int} {s : Bool}
    (hl : cOptOpd lo = some lo') (hh : cOptOpd hi = some hi') (hm : cOptOpd mx = some mx') (e1 : boundO e 0 lo' = some l) (e2 : boundO e n hi' = some h)
    (h0 : 0 ≤ l) (h1 : l ≤ h) (h2 : h ≤ n) (hn : n ≤ cap) (hmx : mx' = none ∨ boundO e 0 mx' = some h) (hmh : mx' = none ∨ hi'.isSome) :
    ∃ m, (Instr.sliceBounds s n cap (lo.map ρ) (hi.map ρ) (mx.map ρ)).run P w = .ok (l.toNat, h.toNat, m) w ∧ h.toNat ≤ m ∧ m ≤ cap ∧ (mx' ≠ none → m = h.toNat) ∧ (mx' = none → m = cap) := by
  unfold Instr.sliceBounds
  cases mx with
  | none =>
    simp [cOptOpd] at hm; subst hm
    rcases boundO_rel hρ hl e1 with ⟨rfl, rfl⟩ | ⟨ol, kl, rfl, hol⟩ <;> rcases boundO_rel hρ hh e2 with ⟨rfl, rfl⟩ | ⟨oh, kh, rfl, hoh⟩
    · exact ⟨cap, by simp, by omega, by omega, by simp, by simp⟩
    · exact ⟨cap, by simp [hoh, run_bound (P := P) (w := w) (k := kh) (i := h) (y := cap) ⟨by omega, by omega⟩], by omega, by omega, by simp, by simp⟩
    · exact ⟨cap, by simp [hol, run_bound (P := P) (w := w) (k := kl) (i := l) (y := n) ⟨by omega, by omega⟩], by omega, by omega, by simp, by simp⟩
    · refine ⟨cap, ?_, by omega, by omega, by simp, by simp⟩
      simp [hoh, hol, run_bound (P := P) (w := w) (k := kh) (i := h) (y := cap) ⟨by omega, by omega⟩, run_bound (P := P) (w := w) (k := kl) (i := l) (y := h.toNat) ⟨by omega, by omega⟩]
  | some om =>
    have hmne : mx' ≠ none := by
      intro hc; subst hc; simp [cOptOpd] at hm
    obtain hmb := hmx.resolve_left hmne
    rcases boundO_rel hρ hm hmb with ⟨hc, _⟩ | ⟨om', km, hom', hom⟩
    · cases hc
    cases hom'
    rcases boundO_rel hρ hh e2 with ⟨rfl, _⟩ | ⟨oh, kh, rfl, hoh⟩
    · simp [cOptOpd] at hh; subst hh; simp at hmh; exact absurd hmh hmne
    rcases boundO_rel hρ hl e1 with ⟨rfl, rfl⟩ | ⟨ol, kl, rfl, hol⟩
    · refine ⟨h.toNat, ?_, by omega, by omega, by simp, by intro hc; exact absurd hc hmne⟩
      cases s <;> simp [hoh, hom, run_bound (P := P) (w := w) (k := km) (i := h) (y := cap) ⟨by omega, by omega⟩, run_bound (P := P) (w := w) (k := kh) (i := h) (y := h.toNat) ⟨by omega, by omega⟩]
    · refine ⟨h.toNat, ?_, by omega, by omega, by simp, by intro hc; exact absurd hc hmne⟩
      cases s <;> simp [hoh, hom, hol, run_bound (P := P) (w := w) (k := km) (i := h) (y := cap) ⟨by omega, by omega⟩, run_bound (P := P) (w := w) (k := kh) (i := h) (y := h.toNat) ⟨by omega, by omega⟩,
        run_bound (P := P) (w := w) (k := kl) (i := l) (y := h.toNat) ⟨by omega, by omega⟩]

theorem rows_sub {b o sz : Nat} {es : List (List AV)} (h : RelRows G b o sz es) (l k : Nat) (hl : l + k ≤ es.length) : RelRows G b (o + l * sz) sz ((es.drop l).take k) :=
  .of_get fun i hi => by
    have hi' : i < k := by simp at hi; omega
    have := h.get (l + i) (by omega)
    rw [show o + (l + i) * sz = o + l * sz + i * sz by rw [Nat.add_mul]; omega] at this
    have e : ((es.drop l).take k).getD i [] = es.getD (l + i) [] := by
      rw [List.getD_eq_getElem?_getD, List.getD_eq_getElem?_getD, List.getElem?_take, if_pos hi', List.getElem?_drop]
    rw [e]; exact this

theorem s_slS {t u : TypeId} {sz : Nat} {e : Nat → AV} {ρ : Operand → Value} (hρ : ORel G e ρ) {lo hi mx : Option Operand} {lo' hi' mx' : Option IOpd} (ht : P.underlying t = some (.slice u)) (hs : szOf P u = some sz)
    (hl : cOptOpd lo = some lo') (hh : cOptOpd hi = some hi') (hm : cOptOpd mx = some mx') (hmh : mx' = none ∨ hi'.isSome) (ha : Rel G a va)
    (h : slSO sz e a lo' hi' mx' = some (p, v)) (hp : p) : ∃ v', (Instr.sliceAt t va (lo.map ρ) (hi.map ρ) (mx.map ρ)).run P w = .ok v' w ∧ Rel G v v' := by
  have hat : ∀ x, (Instr.sliceAt t x (lo.map ρ) (hi.map ρ) (mx.map ρ)).run P w = (Instr.slice t x (lo.map ρ) (hi.map ρ) (mx.map ρ)).run P w := by
    intro x; unfold Instr.sliceAt; rw [Sem.run_bind, run_underlying ht, Result.andThen_ok]
  unfold slSO at h
  split at h
  · split at h
    · rename_i l h' m e1 e2 e3
      obtain ⟨rfl, rfl⟩ := ov_inj h
      obtain ⟨rfl, rfl, rfl⟩ := hp
      simp only [Rel] at ha; subst ha
      obtain ⟨m, hrun, _, hmc, _⟩ := run_bounds (P := P) (w := w) (n := 0) (cap := 0) (s := true) hρ hl hh hm e1 (by simpa using e2) (by omega) (by omega) (by omega) (by omega) (.inr e3) hmh
      obtain rfl : m = 0 := by omega
      refine ⟨.slice none 0 0, ?_, rfl⟩
      rw [hat]
      simp [Instr.slice, run_underlying ht, hrun, run_szOf hs]
    · cases h
  · rename_i sz' es tg
    split at h
    · rename_i l h' e1 e2
      split at h
      · obtain ⟨rfl, rfl⟩ := ov_inj h
        obtain ⟨rfl, h0, h1, h2⟩ := hp
        have hk : (h' - l).toNat = h'.toNat - l.toNat := by omega
        rcases ha with ⟨rfl, rfl⟩ | ⟨b, o, cap, rfl, hcap, hr, _⟩
        · simp at h2
          obtain ⟨m, hrun, _, hmc, _⟩ := run_bounds (P := P) (w := w) (n := 0) (cap := 0) (s := true) hρ hl hh hm e1 (by simpa using e2) h0 h1 (by simpa using h2) (by omega) (.inl rfl) hmh
          obtain rfl : m = 0 := by omega
          refine ⟨.slice none 0 0, ?_, .inl ⟨rfl, by simp⟩⟩
          rw [hat]
          simp [Instr.slice, run_underlying ht, hrun, run_szOf hs]; omega
        · obtain ⟨m, hrun, hm1, hm2, _⟩ := run_bounds (P := P) (w := w) (n := es.length) (cap := cap) (s := true) hρ hl hh hm e1 e2 h0 h1 h2 hcap (.inl rfl) hmh
          refine ⟨.slice (some (if m = l.toNat then ⟨b, o, none⟩ else ⟨b, o + l.toNat * sz', none⟩)) (h'.toNat - l.toNat) (m - l.toNat), ?_, ?_⟩
          · rw [hat]
            simp only [Instr.slice, Sem.run_bind, run_underlying ht, hrun, Result.andThen_ok, run_szOf hs, Option.map_some, Addr.add_lit]
            split <;> rfl
          · have hlen : ((es.drop l.toNat).take (h' - l).toNat).length = h'.toNat - l.toNat := by simp; omega
            refine .inr ⟨b, if m = l.toNat then o else o + l.toNat * sz', m - l.toNat, ?_, by rw [hlen]; omega, ?_, trivial⟩
            · rw [hlen]; split <;> rfl
            · by_cases hz : m = l.toNat
              · have : ((es.drop l.toNat).take (h' - l).toNat) = [] := List.eq_nil_of_length_eq_zero (by rw [hlen]; omega)
                rw [this]; trivial
              · rw [if_neg hz]; exact rows_sub hr _ _ (by omega)
      · rename_i mi
        split at h
        · rename_i km m0 hm0
          obtain ⟨rfl, rfl⟩ := ov_inj h
          obtain ⟨rfl, h0, h1, h2, rfl⟩ := hp
          have hmb : boundO e 0 (some mi) = some m0 := by unfold boundO; simp [hm0]
          have hk : (m0 - l).toNat = m0.toNat - l.toNat := by omega
          rcases ha with ⟨rfl, rfl⟩ | ⟨b, o, cap, rfl, hcap, hr, _⟩
          · simp at h2
            obtain ⟨m, hrun, _, hmc, _⟩ := run_bounds (P := P) (w := w) (n := 0) (cap := 0) (s := true) hρ hl hh hm e1 (by simpa using e2) h0 h1 (by simpa using h2) (by omega) (.inr hmb) hmh
            obtain rfl : m = 0 := by omega
            refine ⟨.slice none 0 0, ?_, .inl ⟨rfl, by simp⟩⟩
            rw [hat]
            simp [Instr.slice, run_underlying ht, hrun, run_szOf hs]; omega
          · obtain ⟨m, hrun, hm1, hm2, hm3, _⟩ := run_bounds (P := P) (w := w) (n := es.length) (cap := cap) (s := true) hρ hl hh hm e1 e2 h0 h1 h2 hcap (.inr hmb) hmh
            obtain rfl := hm3 (by simp)
            refine ⟨.slice (some (if m0.toNat = l.toNat then ⟨b, o, none⟩ else ⟨b, o + l.toNat * sz', none⟩)) (m0.toNat - l.toNat) (m0.toNat - l.toNat), ?_, ?_⟩
            · rw [hat]
              simp only [Instr.slice, Sem.run_bind, run_underlying ht, hrun, Result.andThen_ok, run_szOf hs, Option.map_some, Addr.add_lit]
              split <;> rfl
            · have hlen : ((es.drop l.toNat).take (m0 - l).toNat).length = m0.toNat - l.toNat := by simp; omega
              refine .inr ⟨b, if m0.toNat = l.toNat then o else o + l.toNat * sz', m0.toNat - l.toNat, ?_, by rw [hlen]; omega, ?_, ?_⟩
              · rw [hlen]; split <;> rfl
              · by_cases hz : m0.toNat = l.toNat
                · have : ((es.drop l.toNat).take (m0 - l).toNat) = [] := List.eq_nil_of_length_eq_zero (by rw [hlen]; omega)
                  rw [this]; trivial
                · rw [if_neg hz]; exact rows_sub hr _ _ (by omega)
              · show _ = _; rw [hlen]
        · cases h
    · cases h
  · cases h

theorem s_slT {t : TypeId} {e : Nat → AV} {ρ : Operand → Value} (hρ : ORel G e ρ) {lo hi : Option Operand} {lo' hi' : Option IOpd} (ht : P.underlying t = some .string)
    (hl : cOptOpd lo = some lo') (hh : cOptOpd hi = some hi') (ha : Rel G a va) (h : slTO e a lo' hi' = some (p, v)) (hp : p) :
    ∃ v', (Instr.sliceAt t va (lo.map ρ) (hi.map ρ) none).run P w = .ok v' w ∧ Rel G v v' := by
  have hat : ∀ x, (Instr.sliceAt t x (lo.map ρ) (hi.map ρ) none).run P w = (Instr.slice t x (lo.map ρ) (hi.map ρ) none).run P w := by
    intro x; unfold Instr.sliceAt; rw [Sem.run_bind, run_underlying ht, Result.andThen_ok]
  unfold slTO at h
  split at h
  · split at h
    · rename_i s _ _ l h' e1 e2
      obtain ⟨rfl, rfl⟩ := ov_inj h
      obtain ⟨h0, h1, h2⟩ := hp
      simp only [Rel] at ha; subst ha
      obtain ⟨m, hrun, _⟩ := run_bounds (P := P) (w := w) (n := s.size) (cap := s.size) (s := false) (mx := none) hρ hl hh rfl e1 e2 h0 h1 h2 (by omega) (.inl rfl) (.inl rfl)
      refine ⟨.string (s.extract l.toNat h'.toNat), ?_, rfl⟩
      rw [hat]
      simp only [Option.map_none] at hrun
      simp [Instr.slice, run_underlying ht, hrun]
    · cases h
  · cases h
end
end Go.Abs

namespace Go.Abs
section
variable {P : Program} {G : GS} {w : World} {a b c v : AV} {p : Prop} {va vb vc : Value}

theorem RelL.set : ∀ {l : List AV} {vs : List Value}, RelL G l vs → ∀ (i : Nat) {a : AV} {v : Value}, Rel G a v → RelL G (l.set i a) (vs.set i v)
  | [], vs, h, i, a, v, _ => by simp only [RelL] at h; subst h; exact rfl
  | x :: l, _, ⟨u, r, rfl, h1, h2⟩, 0, a, v, hr => ⟨v, r, rfl, hr, h2⟩
  | x :: l, _, ⟨u, r, rfl, h1, h2⟩, i + 1, a, v, hr => ⟨u, r.set i v, rfl, h1, RelL.set h2 i hr⟩
theorem RelL.setL : ∀ {cs : List AV} {vs : List Value} {l : List AV} {us : List Value}, RelL G cs vs → RelL G l us → ∀ off : Nat, RelL G (setL l off cs) (Go.Abs.setL us off vs)
  | [], vs, l, us, h, h2, off => by simp only [RelL] at h; subst h; exact h2
  | x :: cs, _, l, us, ⟨u, r, rfl, h1, h3⟩, h2, off => RelL.setL h3 (h2.set off h1) (off + 1)
theorem length_setL {α : Type} : ∀ (cs : List α) (l : List α) (off : Nat), (setL l off cs).length = l.length
  | [], _, _ => rfl
  | x :: cs, l, off => by rw [setL, length_setL cs]; simp

theorem cellsO_rel {sz : Nat} {cs : List AV} (ha : Rel G a va) (h : cellsO sz a = some (p, cs)) (hp : p) :
    RelL G cs va.cells.toList ∧ va.cells.size = sz ∧ cs.length = sz ∧ cs.all AV.scal = true := by
  have one : ∀ x : AV, x.scal = true → Rel G x va → va.cells = #[va] → RelL G [x] va.cells.toList ∧ va.cells.size = 1 ∧ [x].length = 1 ∧ [x].all AV.scal = true := by
    intro x hx hr hc
    rw [hc]
    exact ⟨⟨va, [], rfl, hr, rfl⟩, rfl, rfl, by simp [hx]⟩
  cases a <;> simp only [cellsO] at h <;> try (cases h; done)
  case agg cs' =>
    obtain ⟨rfl, rfl⟩ := ov_inj h
    obtain ⟨vs, rfl, hr⟩ := ha
    exact ⟨hr, by rw [← hp.1]; simpa [Value.cells] using hr.length, hp.1, hp.2⟩
  all_goals (obtain ⟨rfl, rfl⟩ := ov_inj h; subst hp; refine one _ rfl ha ?_)
  case slc => rcases ha with ⟨rfl, _⟩ | ⟨_, _, _, rfl, _⟩ <;> rfl
  case msl => obtain ⟨_, _, rfl, _⟩ := ha; rfl
  case pin => obtain ⟨_, _, rfl, _⟩ := ha; rfl
  case ref => obtain ⟨_, _, rfl, _⟩ := ha; rfl
  case clo => obtain ⟨_, _, rfl, _⟩ := ha; rfl
  case ifc => obtain ⟨_, rfl, _⟩ := ha; rfl
  case map => obtain ⟨_, _, rfl, _⟩ := ha; rfl
  all_goals (simp only [Rel] at ha; subst ha; rfl)

theorem scal_one (ha : Rel G a va) (h : a.scal = true) : va.oneCell' = true := by
  cases a <;> simp only [AV.scal] at h <;> try (cases h; done)
  case slc => rcases ha with ⟨rfl, _⟩ | ⟨_, _, _, rfl, _⟩ <;> rfl
  case msl => obtain ⟨_, _, rfl, _⟩ := ha; rfl
  case pin => obtain ⟨_, _, rfl, _⟩ := ha; rfl
  case ref => obtain ⟨_, _, rfl, _⟩ := ha; rfl
  case clo => obtain ⟨_, _, rfl, _⟩ := ha; rfl
  case ifc => obtain ⟨_, rfl, _⟩ := ha; rfl
  case map => obtain ⟨_, _, rfl, _⟩ := ha; rfl
  all_goals (simp only [Rel] at ha; subst ha; rfl)

theorem fold_setL (off : Nat) : ∀ (l : List Value) (k : Nat) (A : Array Value),
    ((l.zipIdx k).foldl (fun cs (x : Value × Nat) => cs.setIfInBounds (off + x.2) x.1) A).toList = setL A.toList (off + k) l
  | [], k, A => rfl
  | x :: l, k, A => by
    rw [List.zipIdx_cons, List.foldl_cons, fold_setL off l (k + 1)]
    simp only [setL, Array.toList_setIfInBounds]
    rfl

theorem fill_step (place : Nat → Option (Nat × Nat)) {cells : Array Value} {i off size : Nat} {v : Value} {rest : List (Nat × Value)} (hpl : place i = some (off, size)) (hs : v.cells.size = size) (ho : off + v.cells.size ≤ cells.size) :
    Instr.fill place cells ((i, v) :: rest) = Instr.fill place (setL cells.toList off v.cells.toList).toArray rest := by
  simp only [Instr.fill, hpl]
  rw [if_neg (by simp [hs] at ho ⊢; omega)]
  congr 1
  apply Array.toList_inj.1
  have := fold_setL off v.cells.toList 0 cells
  simp only [Nat.add_zero] at this
  simp only [← this]
  rw [← Array.foldl_toList, Array.toList_zipIdx]

theorem bld_fill {e : Nat → AV} {ρ : Operand → Value} (hρ : ORel G e ρ) {pl : Nat → Option (Nat × TypeId)} {place : Nat → Option (Nat × Nat)}
    (hpl : ∀ i off t sz, pl i = some (off, t) → szOf P t = some sz → place i = some (off, sz)) :
    ∀ {parts : List (Nat × Operand)} {ps : List (Nat × Nat × IOpd)} {l l' : List AV} {A : Array Value} {p : Prop}, cParts P pl parts = some ps → RelL G l A.toList → bldO e l ps = some (p, l') → p →
      ∃ A', Instr.fill place A (parts.map fun x => (x.1, ρ x.2)) = some A' ∧ RelL G l' A'.toList
  | [], ps, l, l', A, p, h, hl, hb, hp => by
    simp [cParts] at h; subst h
    simp only [bldO] at hb
    obtain ⟨_, rfl⟩ := ov_inj hb
    exact ⟨A, rfl, hl⟩
  | (i, x) :: parts, ps, l, l', A, p, h, hl, hb, hp => by
    simp only [cParts, Option.bind_eq_bind, Option.bind_eq_some_iff, Prod.exists] at h
    obtain ⟨off, t, hi, sz, hs, y, hy, r, hr, h⟩ := h
    cases h
    simp only [bldO] at hb
    split at hb
    · rename_i q cs hcs
      split at hb
      · rename_i q' c' hc'
        obtain ⟨rfl, rfl⟩ := ov_inj hb
        obtain ⟨h1, h2, h3⟩ := hp
        obtain ⟨g1, g2, g3, _⟩ := cellsO_rel (hρ _ _ hy) hcs h1
        have hlen := hl.length
        rw [List.map_cons, fill_step place (hpl _ _ _ _ hi hs) g2 (by rw [g2]; simp at hlen; omega)]
        exact bld_fill hρ hpl hr (by simpa using RelL.setL g1 hl off) hc' h3
      · cases hb
    · cases hb

theorem zero_rel {t : TypeId} {z : List AV} (h : zeroOf P t = some z) : ∃ i zv, P.info? t = some i ∧ i.zero = some zv ∧ zv.cells.size = i.size ∧ z = zv.cells.toList.map ofV ∧ RelL G z zv.cells.toList ∧ z.length = i.size ∧ zv.cells.toList.all Value.oneCell' = true := by
  simp only [zeroOf, Option.bind_eq_bind, Option.bind_eq_some_iff] at h
  obtain ⟨i, hi, zv, hz, h⟩ := h
  split at h
  · rename_i hs
    cases h
    refine ⟨i, zv, hi, hz, hs.1, rfl, RelL.of_get (by simp) fun j a hj => ?_, by simp [hs.1], hs.2⟩
    rw [List.getElem?_map] at hj
    cases hv : zv.cells.toList[j]? with
    | none => simp [hv] at hj
    | some x => simp [hv] at hj; subst hj; exact ⟨x, rfl, ofV_rel _ _⟩
  · cases h

theorem run_zero {t : TypeId} {i : TypeInfo} {z : Value} (hi : P.info? t = some i) (hz : i.zero = some z) : (zeroValue t).run P w = .ok z w := by
  simp [zeroValue, run_typeInfo w hi, hz]

theorem run_places : ∀ (fs : List Field), fs.all (fun f => (szOf P f.type).isSome) = true →
    (fs.mapM (fun f => do pure (f.offset, ← sizeOf f.type) : Field → Sem (Nat × Nat))).run P w = .ok (fs.map fun f => (f.offset, (szOf P f.type).getD 0)) w
  | [], _ => rfl
  | f :: fs, h => by
    simp only [List.all_cons, Bool.and_eq_true] at h
    obtain ⟨h1, h2⟩ := h
    obtain ⟨n, hn⟩ := Option.isSome_iff_exists.1 h1
    rw [List.mapM_cons]
    have ih := run_places fs h2
    simp only [Sem.run_bind, run_szOf hn, Result.andThen_ok, Sem.run_pure, ih, List.map_cons, hn, Option.getD_some]

theorem s_bld {t : TypeId} {z : List AV} {ps : List (Nat × Nat × IOpd)} {parts : Array (Nat × Operand)} {e : Nat → AV} {ρ : Operand → Value} (hρ : ORel G e ρ) (hz : zeroOf P t = some z)
    (ht : (∃ fields, P.underlying t = some (.struct fields) ∧ fields.toList.all (fun f => (szOf P f.type).isSome) = true ∧ cParts P (fun i => (fields[i]?).map fun f => (f.offset, f.type)) parts.toList = some ps) ∨
      ∃ n u sz, P.underlying t = some (.array n u) ∧ szOf P u = some sz ∧ cParts P (fun i => some (i * sz, u)) parts.toList = some ps)
    {l : List AV} (h : bldO e z ps = some (p, l)) (hp : p) : ∃ v', (Instr.build t (parts.map fun x => (x.1, ρ x.2))).run P w = .ok v' w ∧ Rel G (.agg l) v' := by
  obtain ⟨i, zv, hi, hzv, hzs, _, hzr, _, _⟩ := zero_rel (G := G) hz
  unfold Instr.build
  rw [Sem.run_bind, run_zero hi hzv, Result.andThen_ok, Sem.run_bind]
  rcases ht with ⟨fields, ht, hall, hc⟩ | ⟨n, u, sz, ht, hs, hc⟩
  · obtain ⟨A', hA, hr⟩ := bld_fill (place := fun i => (fields.map fun f => (f.offset, (szOf P f.type).getD 0))[i]?) hρ (fun i off t sz h1 h2 => by
      rw [Option.map_eq_some_iff] at h1
      obtain ⟨f, hf, h1⟩ := h1
      cases h1
      simp [hf, h2]) hc hzr h hp
    refine ⟨.agg A', ?_, ⟨A', rfl, hr⟩⟩
    rw [run_underlying ht, Result.andThen_ok]
    have hm : (fields.mapM (fun f => do pure (f.offset, ← sizeOf f.type) : Field → Sem (Nat × Nat))).run P w = .ok (fields.map fun f => (f.offset, (szOf P f.type).getD 0)) w := by
      rw [Array.mapM_eq_mapM_toList, Sem.run_map, run_places _ hall, Result.andThen_ok]
      congr 1
      apply Array.toList_inj.1; simp
    simp only [Sem.run_bind, hm, Result.andThen_ok, Array.toList_map, hA]
    rfl
  · obtain ⟨A', hA, hr⟩ := bld_fill (place := fun i => some (i * sz, sz)) hρ (fun i off t sz' h1 h2 => by
      injection h1 with h1; injection h1 with h1 h3; subst h1; subst h3; rw [hs] at h2; cases h2; rfl) hc hzr h hp
    refine ⟨.agg A', ?_, ⟨A', rfl, hr⟩⟩
    rw [run_underlying ht, Result.andThen_ok]
    simp only [Sem.run_bind, run_szOf hs, Result.andThen_ok, Array.toList_map, hA]
    rfl
end
end Go.Abs

/-! ### Soundness: how what is known of the heap changes -/
namespace Go.Abs
structure StepOK (G : GS) (σ : Sig) (w : World) (G' : GS) (σ' : Sig) (w' : World) : Prop where
  le : G.le G'
  inv : Inv G' σ' w'
  ext : Ext (Foot G σ) G.K w G'.K w'
  own : ∀ b, Foot G' σ' b → Foot G σ b ∨ w.heap.size ≤ b

theorem GS.le.refl (G : GS) : G.le G := ⟨fun _ _ _ h => h, fun _ _ _ h => h⟩
theorem GS.le.trans {A B C : GS} (h : A.le B) (k : B.le C) : A.le C := ⟨fun b o v x => k.K _ _ _ (h.K b o v x), fun i g x y => k.m _ _ _ (h.m i g x y)⟩
theorem Ext.refl (F : Nat → Prop) (K : Nat → Nat → Option Value) (w : World) : Ext F K w K w := ⟨rfl, rfl, rfl, Nat.le_refl _, fun _ _ _ => rfl, fun _ _ _ h => h, fun _ _ _ => rfl⟩
/-- Two steps, seen from the first world. -/
theorem Ext.trans {F F' : Nat → Prop} {K K' K'' : Nat → Nat → Option Value} {w w' w'' : World} (h : Ext F K w K' w') (k : Ext F' K' w' K'' w'') (hF : ∀ b, b < w.heap.size → F' b → F b) : Ext F K w K'' w'' :=
  ⟨k.os.trans h.os, k.tape.trans h.tape, k.output.trans h.output, Nat.le_trans h.size k.size,
   fun b hb hn => (k.block b (Nat.lt_of_lt_of_le hb h.size) (fun hc => hn (hF b hb hc))).trans (h.block b hb hn),
   fun b o v hv => k.le _ _ _ (h.le _ _ _ hv),
   fun b hb hn => (k.Kb b (Nat.lt_of_lt_of_le hb h.size) (fun hc => hn (hF b hb hc))).trans (h.Kb b hb hn)⟩
theorem StepOK.refl {G : GS} {σ : Sig} {w : World} (h : Inv G σ w) : StepOK G σ w G σ w := ⟨.refl G, h, .refl _ _ _, fun _ hb => .inl hb⟩
theorem StepOK.trans {G G' G'' : GS} {σ σ' σ'' : Sig} {w w' w'' : World} (h : StepOK G σ w G' σ' w') (k : StepOK G' σ' w' G'' σ'' w'') : StepOK G σ w G'' σ'' w'' :=
  ⟨h.le.trans k.le, k.inv, h.ext.trans k.ext fun b hb hf => (h.own b hf).resolve_right (by omega),
   fun b hb => (k.own b hb).elim (fun hf => h.own b hf) fun hn => .inr (Nat.le_trans h.ext.size hn)⟩

theorem live_upd {σ : Sig} {d g : Nat} {r : Res} {i : Nat} (h : i ≠ d) : live (upd σ d (g, r)) i = live σ i := by unfold live; rw [upd_eq, if_neg h]

theorem Inv.lt {G : GS} {σ : Sig} {w : World} (h : Inv G σ w) {b : Nat} (hf : Foot G σ b) : b < w.heap.size := by
  obtain ⟨i, x, ⟨c, hc⟩, hm⟩ := hf
  rcases h.res i c hc with ⟨_, hn⟩ | ⟨b', e, lim, vals, T, hR⟩
  · rw [hm] at hn; cases hn
  · have := hR.m; rw [hm] at this; cases this
    exact (Array.getElem?_eq_some_iff.1 hR.obj).1
theorem Kok.lt {K : Nat → Nat → Option Value} {w : World} (h : Kok K w) {b o : Nat} {v : Value} (hk : K b o = some v) : b < w.heap.size := by
  have := h.cell _ _ _ hk
  unfold World.cell? at this
  cases hb : w.heap[b]? with
  | none => simp [hb] at this
  | some o => exact (Array.getElem?_eq_some_iff.1 hb).1

/-- A resource is given up. -/
theorem Inv.kill {G : GS} {σ : Sig} {w : World} (h : Inv G σ w) (d k : Nat) : Inv G (upd σ d (k, .dead)) w where
  kok := h.kok
  res i c hc := by
    by_cases e : i = d
    · subst e; rw [upd_eq, if_pos rfl] at hc; cases hc
    · rw [upd_eq, if_neg e] at hc ⊢; exact h.res i c hc
  fresh := h.fresh
  dist i j b x y hij hi hj h1 h2 := by
    have ni : i ≠ d := by rintro rfl; obtain ⟨c, hc⟩ := hi; rw [upd_eq, if_pos rfl] at hc; cases hc
    have nj : j ≠ d := by rintro rfl; obtain ⟨c, hc⟩ := hj; rw [upd_eq, if_pos rfl] at hc; cases hc
    rw [live_upd ni] at hi
    rw [live_upd nj] at hj
    rw [upd_eq, if_neg ni] at h1
    rw [upd_eq, if_neg nj] at h2
    exact h.dist i j b x y hij hi hj h1 h2
theorem Foot.of_kill {G : GS} {σ : Sig} {d b k : Nat} (h : Foot G (upd σ d (k, .dead)) b) : Foot G σ b := by
  obtain ⟨i, x, ⟨c, hc⟩, hm⟩ := h
  have ni : i ≠ d := by rintro rfl; rw [upd_eq, if_pos rfl] at hc; cases hc
  rw [upd_eq, if_neg ni] at hc hm
  exact ⟨i, x, ⟨c, hc⟩, hm⟩
theorem StepOK.kill {G : GS} {σ : Sig} {w : World} (h : Inv G σ w) (d k : Nat) : StepOK G σ w G (upd σ d (k, .dead)) w :=
  ⟨.refl G, h.kill d k, .refl _ _ _, fun _ hb => .inl hb.of_kill⟩

/-- A draw. -/
theorem Inv.drew {G : GS} {σ : Sig} {w w' : World} (h : Inv G σ w) (hh : w'.heap = w.heap) : Inv G σ w' :=
  have hc : ∀ a, w'.cell? a = w.cell? a := fun a => by simp [World.cell?, hh]
  ⟨⟨fun b o v hv => by rw [hc]; exact h.kok.cell _ _ _ hv, h.kok.one⟩, fun i c hr => (h.res i c hr).imp id fun ⟨b, e, lim, vals, T, hR⟩ => ⟨b, e, lim, vals, T, ⟨hR.m, by rw [hh]; exact hR.obj, hR.fit, hR.lim, hR.K, hR.rel⟩⟩, h.fresh, h.dist⟩
theorem StepOK.drew {G : GS} {σ : Sig} {w w' : World} (h : Inv G σ w) (hh : w'.heap = w.heap) (h1 : w'.os = w.os) (h2 : w'.tape = w.tape) (h3 : w'.output = w.output) : StepOK G σ w G σ w' :=
  ⟨.refl G, h.drew hh, ⟨h1, h2, h3, by rw [hh]; exact Nat.le_refl _, fun b _ _ => by rw [hh], fun _ _ _ x => x, fun _ _ _ => rfl⟩, fun _ hb => .inl hb⟩

theorem alloc_new (w : World) (o : Obj) : (w.alloc o).heap[w.heap.size]? = some o := by show (w.heap.push o)[w.heap.size]? = some o; simp
theorem alloc_old (w : World) (o : Obj) {i : Nat} (h : i < w.heap.size) : (w.alloc o).heap[i]? = w.heap[i]? := by
  show (w.heap.push o)[i]? = w.heap[i]?
  rw [Array.getElem?_push, if_neg (Nat.ne_of_lt h)]

/-- The ghost state with a new block: its first k cells committed; the rest belongs to the resource (d, g). -/
def GS.grow (G : GS) (B : Nat) (vals : Array Value) (k d g : Nat) : GS where
  K b o := if b = B then (if o < k then vals[o]? else none) else G.K b o
  m i h := if i = d ∧ h = g then some (B, k, vals.size) else G.m i h

theorem alloc_ok {G : GS} {σ : Sig} {w : World} (hI : Inv G σ w) (vals : Array Value) (T : TypeId) (k d g : Nat) (hg : G.m d g = none) (c : List AV) (hk : k + c.length ≤ vals.size) (h1 : ∀ o v, o < k → vals[o]? = some v → v.oneCell' = true)
    (hc : ∀ j a, c[j]? = some a → ∃ v, vals[k + j]? = some v ∧ Rel G a v) :
    StepOK G σ w (G.grow w.heap.size vals k d g) (newS σ d g c) (w.alloc (.cells vals T)) := by
  have hnew : ∀ o, G.K w.heap.size o = none := fun o => by
    cases hv : G.K w.heap.size o with
    | none => rfl
    | some v => exact absurd (hI.kok.lt hv) (by omega)
  have hle : G.le (G.grow w.heap.size vals k d g) := by
    constructor
    · intro b o v hv
      have := hI.kok.lt hv
      simp only [GS.grow]
      rw [if_neg (by omega)]; exact hv
    · intro i g' x hx
      simp only [GS.grow]
      rw [if_neg]
      · exact hx
      · rintro ⟨rfl, rfl⟩
        rw [hg] at hx; cases hx
  have hcell : ∀ b o, b < w.heap.size → (w.alloc (.cells vals T)).cell? ⟨b, o, none⟩ = w.cell? ⟨b, o, none⟩ := fun b o hb => by
    simp only [World.cell?]; rw [alloc_old _ _ hb]
  refine ⟨hle, ⟨⟨?_, ?_⟩, ?_, ?_, ?_⟩, ⟨rfl, rfl, rfl, by show w.heap.size ≤ (w.heap.push _).size; simp, fun b hb _ => alloc_old _ _ hb, fun b o v => hle.K b o v, fun b hb _ => ?_⟩, ?_⟩
  · intro b o v hv
    simp only [GS.grow] at hv
    split at hv
    · rename_i e; subst e
      split at hv
      · simp only [World.cell?]; rw [alloc_new]; simpa using hv
      · cases hv
    · rw [hcell _ _ (hI.kok.lt hv)]; exact hI.kok.cell _ _ _ hv
  · intro b o v hv
    simp only [GS.grow] at hv
    split at hv
    · split at hv
      · exact h1 o v (by assumption) hv
      · cases hv
    · exact hI.kok.one _ _ _ hv
  · intro i c' hi
    by_cases e : i = d
    · subst e
      right
      rw [newS, upd_eq, if_pos rfl] at hi ⊢
      cases hi
      refine ⟨w.heap.size, k, vals.size, vals, T, ⟨by simp [GS.grow], alloc_new _ _, hk, Nat.le_refl _, fun o ho => ?_, fun j a hj => ?_⟩⟩
      · simp only [GS.grow, if_true]; rw [if_neg (by omega)]
      · obtain ⟨v, hv, hr⟩ := hc j a hj
        exact ⟨v, hv, hr.mono hle⟩
    · rw [newS, upd_eq, if_neg e] at hi ⊢
      rcases hI.res i c' hi with ⟨h2, h3⟩ | ⟨b, e', lim, vals', T', hR⟩
      · left; refine ⟨h2, ?_⟩
        simp only [GS.grow]; rw [if_neg (by rintro ⟨h, _⟩; exact e h)]; exact h3
      · right
        have hb : b < w.heap.size := (Array.getElem?_eq_some_iff.1 hR.obj).1
        refine ⟨b, e', lim, vals', T', ⟨hle.m _ _ _ hR.m, by rw [alloc_old _ _ hb]; exact hR.obj, hR.fit, hR.lim, fun o ho => ?_, fun j a hj => ?_⟩⟩
        · simp only [GS.grow]; rw [if_neg (by omega)]; exact hR.K o ho
        · obtain ⟨v, hv, hr⟩ := hR.rel j a hj
          exact ⟨v, hv, hr.mono hle⟩
  · intro i
    obtain ⟨N, hN⟩ := hI.fresh i
    refine ⟨N + g + 1, fun g' hg' => ?_⟩
    simp only [GS.grow]
    rw [if_neg (by rintro ⟨_, h⟩; omega)]; exact hN _ (by omega)
  · intro i j b x y hij hi hj hx hy
    have key : ∀ i, i ≠ d → live (newS σ d g c) i → ∀ b x, (G.grow w.heap.size vals k d g).m i (newS σ d g c i).1 = some (b, x) → live σ i ∧ G.m i (σ i).1 = some (b, x) := by
      intro i e hi b x hx
      unfold live newS at hi
      rw [newS, upd_eq, if_neg e] at hx
      rw [upd_eq, if_neg e] at hi
      simp only [GS.grow] at hx
      rw [if_neg (by rintro ⟨h, _⟩; exact e h)] at hx
      exact ⟨hi, hx⟩
    have keyd : ∀ b x, (G.grow w.heap.size vals k d g).m d (newS σ d g c d).1 = some (b, x) → b = w.heap.size := by
      intro b x hx
      rw [newS, upd_eq, if_pos rfl] at hx
      simp [GS.grow] at hx
      exact hx.1.symm
    by_cases ei : i = d
    · subst ei
      have hb := keyd _ _ hx
      obtain ⟨lj, mj⟩ := key j (Ne.symm hij) hj _ _ hy
      have := hI.lt ⟨j, y, lj, mj⟩
      omega
    · obtain ⟨li, mi⟩ := key i ei hi _ _ hx
      by_cases ej : j = d
      · subst ej
        have hb := keyd _ _ hy
        have := hI.lt ⟨i, x, li, mi⟩
        omega
      · obtain ⟨lj, mj⟩ := key j ej hj _ _ hy
        exact hI.dist i j b x y hij li lj mi mj
  · funext o; simp only [GS.grow]; rw [if_neg (by omega)]
  · rintro b ⟨i, x, hi, hx⟩
    by_cases e : i = d
    · subst e
      rw [newS, upd_eq, if_pos rfl] at hx
      simp [GS.grow] at hx
      exact .inr (by omega)
    · left
      unfold live newS at hi
      rw [newS, upd_eq, if_neg e] at hx
      rw [upd_eq, if_neg e] at hi
      simp only [GS.grow] at hx
      rw [if_neg (by rintro ⟨h, _⟩; exact e h)] at hx
      exact ⟨i, x, hi, hx⟩
/-- The resource's generation of the new block. -/
theorem grow_m {G : GS} {B : Nat} {vals : Array Value} {k d g : Nat} : (G.grow B vals k d g).m d g = some (B, k, vals.size) := by simp [GS.grow]
theorem grow_K {G : GS} {B : Nat} {vals : Array Value} {k d g o : Nat} (h : o < k) : (G.grow B vals k d g).K B o = vals[o]? := by simp [GS.grow, h]

/-- The ghost state with a new block, all of which is committed. -/
def GS.growK (G : GS) (B : Nat) (vals : Array Value) : GS := ⟨fun b o => if b = B then vals[o]? else G.K b o, G.m⟩
theorem allocK_ok {G : GS} {σ : Sig} {w : World} (hI : Inv G σ w) (vals : Array Value) (T : TypeId) (h1 : ∀ (o : Nat) (v : Value), vals[o]? = some v → v.oneCell' = true) :
    StepOK G σ w (G.growK w.heap.size vals) σ (w.alloc (.cells vals T)) := by
  have hle : G.le (G.growK w.heap.size vals) := ⟨fun b o v hv => by
      have := hI.kok.lt hv
      simp only [GS.growK]; rw [if_neg (by omega)]; exact hv, fun _ _ _ h => h⟩
  refine ⟨hle, ⟨⟨?_, ?_⟩, ?_, hI.fresh, hI.dist⟩, ⟨rfl, rfl, rfl, by show w.heap.size ≤ (w.heap.push _).size; simp, fun b hb _ => alloc_old _ _ hb, fun b o v => hle.K b o v, fun b hb _ => ?_⟩, fun b hb => .inl hb⟩
  · intro b o v hv
    simp only [GS.growK] at hv
    split at hv
    · rename_i e; subst e
      simp only [World.cell?]; rw [alloc_new]; simpa using hv
    · have := hI.kok.cell _ _ _ hv
      simp only [World.cell?] at this ⊢
      rw [alloc_old _ _ (hI.kok.lt hv)]; exact this
  · intro b o v hv
    simp only [GS.growK] at hv
    split at hv
    · exact h1 o v hv
    · exact hI.kok.one _ _ _ hv
  · intro i c' hi
    rcases hI.res i c' hi with h2 | ⟨b, e', lim, vals', T', hR⟩
    · exact .inl h2
    · have hb : b < w.heap.size := (Array.getElem?_eq_some_iff.1 hR.obj).1
      refine .inr ⟨b, e', lim, vals', T', ⟨hR.m, by rw [alloc_old _ _ hb]; exact hR.obj, hR.fit, hR.lim, fun o ho => ?_, fun j a hj => ?_⟩⟩
      · simp only [GS.growK]; rw [if_neg (by omega)]; exact hR.K o ho
      · obtain ⟨v, hv, hr⟩ := hR.rel j a hj
        exact ⟨v, hv, hr.mono hle⟩
  · funext o; simp only [GS.growK]; rw [if_neg (by omega)]

/-- The nil slice that is the beginning of a slice of one's own: a resource without a block. -/
theorem nil_ok {G : GS} {σ : Sig} {w : World} (hI : Inv G σ w) (d g : Nat) (hg : G.m d g = none) : StepOK G σ w G (newS σ d g []) w := by
  refine ⟨.refl G, ⟨hI.kok, ?_, ?_, ?_⟩, .refl _ _ _, ?_⟩
  · intro i c hi
    by_cases e : i = d
    · subst e; rw [newS, upd_eq, if_pos rfl] at hi ⊢; cases hi
      exact .inl ⟨rfl, hg⟩
    · rw [newS, upd_eq, if_neg e] at hi ⊢; exact hI.res i c hi
  · exact hI.fresh
  · intro i j b x y hij hi hj hx hy
    have nd : ∀ i b x, G.m i (newS σ d g [] i).1 = some (b, x) → i ≠ d := by
      rintro i b x hx rfl
      rw [newS, upd_eq, if_pos rfl, hg] at hx; cases hx
    have ni := nd i _ _ hx
    have nj := nd j _ _ hy
    unfold live newS at hi hj
    rw [upd_eq, if_neg ni] at hi
    rw [upd_eq, if_neg nj] at hj
    rw [newS, upd_eq, if_neg ni] at hx
    rw [newS, upd_eq, if_neg nj] at hy
    exact hI.dist i j b x y hij hi hj hx hy
  · rintro b ⟨i, x, hi, hx⟩
    by_cases e : i = d
    · subst e
      rw [newS, upd_eq, if_pos rfl, hg] at hx; cases hx
    · unfold live newS at hi
      rw [upd_eq, if_neg e] at hi
      rw [newS, upd_eq, if_neg e] at hx
      exact .inl ⟨i, x, hi, hx⟩
end Go.Abs

namespace Go.Abs
/-- Cells of a row that belongs to a resource are written. -/
theorem write_ok {G : GS} {σ : Sig} {w : World} (hI : Inv G σ w) {i g : Nat} {c c' : List AV} (hσ : σ i = (g, .row c)) {b e lim : Nat} {vals vals' : Array Value} {T : TypeId} (hR : ResOK G w i g c b e lim vals T)
    (hs : vals'.size = vals.size) (hlow : ∀ o, o < e → vals'[o]? = vals[o]?) (hl : e + c'.length ≤ lim) (hc : ∀ j a, c'[j]? = some a → ∃ v, vals'[e + j]? = some v ∧ Rel G a v) :
    StepOK G σ w G (upd σ i (g, .row c')) (w.setRow b vals') := by
  have hlive : live σ i := ⟨c, by rw [hσ]⟩
  have hmi : G.m i (σ i).1 = some (b, e, lim) := by rw [hσ]; exact hR.m
  have hf : Foot G σ b := ⟨i, _, hlive, hmi⟩
  have hheap := setRow_heap w b vals vals' T (0, 0) hR.obj
  refine ⟨.refl G, ⟨⟨?_, hI.kok.one⟩, ?_, ?_, ?_⟩, ⟨rfl, rfl, rfl, by simp, fun k _ hn => setRow_other _ _ _ _ (fun h => hn (h ▸ hf)), fun _ _ _ h => h, fun _ _ _ => rfl⟩, ?_⟩
  · intro b' o v hv
    by_cases h : b' = b
    · subst h
      have ho : o < e := Decidable.byContradiction fun hc => by rw [hR.K o (by omega)] at hv; cases hv
      have := hI.kok.cell _ _ _ hv
      simp only [World.cell?, hheap]
      simp only [World.cell?, hR.obj] at this
      simp at this ⊢
      rw [hlow o ho]; exact this
    · rw [cell_setRow_other _ _ _ _ h]; exact hI.kok.cell _ _ _ hv
  · intro j d hj
    by_cases h : j = i
    · subst h
      rw [upd_eq, if_pos rfl] at hj ⊢
      cases hj
      exact .inr ⟨b, e, lim, vals', T, ⟨hR.m, hheap, hl, by rw [hs]; exact hR.lim, hR.K, hc⟩⟩
    · rw [upd_eq, if_neg h] at hj ⊢
      rcases hI.res j d hj with h2 | ⟨b', e', lim', vs, T', hR'⟩
      · exact .inl h2
      · have hne : b' ≠ b := by
          rintro rfl
          exact hI.dist j i _ _ _ h ⟨d, hj⟩ hlive hR'.m hmi
        exact .inr ⟨b', e', lim', vs, T', ⟨hR'.m, by rw [setRow_other _ _ _ _ hne]; exact hR'.obj, hR'.fit, hR'.lim, hR'.K, hR'.rel⟩⟩
  · exact hI.fresh
  · intro j k b' x y hjk hj hk hx hy
    have key : ∀ j, live (upd σ i (g, .row c')) j → ∀ b x, G.m j (upd σ i (g, Res.row c') j).1 = some (b, x) → live σ j ∧ G.m j (σ j).1 = some (b, x) := by
      intro j hj b x hx
      by_cases h : j = i
      · subst h; rw [upd_eq, if_pos rfl] at hx; exact ⟨hlive, by rw [hσ]; exact hx⟩
      · rw [live_upd h] at hj; rw [upd_eq, if_neg h] at hx; exact ⟨hj, hx⟩
    obtain ⟨l1, m1⟩ := key j hj _ _ hx
    obtain ⟨l2, m2⟩ := key k hk _ _ hy
    exact hI.dist j k b' x y hjk l1 l2 m1 m2
  · rintro k ⟨j, x, hj, hx⟩
    left
    by_cases h : j = i
    · subst h; rw [upd_eq, if_pos rfl] at hx; exact ⟨j, x, hlive, by rw [hσ]; exact hx⟩
    · rw [live_upd h] at hj; rw [upd_eq, if_neg h] at hx; exact ⟨j, x, hj, hx⟩

/-- The ghost state in which k cells more of block b are committed, and the rest of it is the resource (d, h). -/
def GS.commit (G : GS) (b : Nat) (vals : Array Value) (e k lim d h : Nat) : GS where
  K b' o := if b' = b then (if e ≤ o ∧ o < e + k then vals[o]? else G.K b o) else G.K b' o
  m i g := if i = d ∧ g = h then some (b, e + k, lim) else G.m i g

/-- The first k cells of a resource's row become persistent; the rest goes on as a resource at another place (or at the same, a generation on). -/
theorem commit_ok {G : GS} {σ : Sig} {w : World} (hI : Inv G σ w) {i g : Nat} {c : List AV} (hσ : σ i = (g, .row c)) {b e lim : Nat} {vals : Array Value} {T : TypeId} (hR : ResOK G w i g c b e lim vals T)
    (d k γ : Nat) (hγ : G.m d γ = none) (hk : e + k ≤ lim) (h1 : ∀ o v, e ≤ o → o < e + k → vals[o]? = some v → v.oneCell' = true) :
    StepOK G σ w (G.commit b vals e k lim d γ) (newS (upd σ i (g, .dead)) d γ []) w := by
  have hlive : live σ i := ⟨c, by rw [hσ]⟩
  have hmi : G.m i (σ i).1 = some (b, e, lim) := by rw [hσ]; exact hR.m
  have hf : Foot G σ b := ⟨i, _, hlive, hmi⟩
  have hle : G.le (G.commit b vals e k lim d γ) := by
    constructor
    · intro b' o v hv
      simp only [GS.commit]
      by_cases h : b' = b
      · subst h
        rw [if_pos rfl, if_neg]
        · exact hv
        · intro hc; rw [hR.K o hc.1] at hv; cases hv
      · rw [if_neg h]; exact hv
    · intro j h x hx
      simp only [GS.commit]
      rw [if_neg]
      · exact hx
      · rintro ⟨rfl, rfl⟩; rw [hγ] at hx; cases hx
  have key : ∀ j, j ≠ d → live (newS (upd σ i (g, .dead)) d γ []) j → j ≠ i ∧ live σ j ∧ (newS (upd σ i (g, .dead)) d γ [] j) = σ j := by
    intro j hj hl
    have hji : j ≠ i := by
      rintro rfl
      obtain ⟨c', hc'⟩ := hl
      rw [newS, upd_eq, if_neg hj, upd_eq, if_pos rfl] at hc'; cases hc'
    have he : newS (upd σ i (g, .dead)) d γ [] j = σ j := by rw [newS, upd_eq, if_neg hj, upd_eq, if_neg hji]
    unfold live at hl; rw [he] at hl
    exact ⟨hji, hl, he⟩
  have hd1 : (newS (upd σ i (g, .dead)) d γ [] d) = (γ, .row []) := by rw [newS, upd_eq, if_pos rfl]
  refine ⟨hle, ⟨⟨?_, ?_⟩, ?_, ?_, ?_⟩, ⟨rfl, rfl, rfl, Nat.le_refl _, fun _ _ _ => rfl, fun b o v => hle.K b o v, fun b' hb hn => ?_⟩, ?_⟩
  · intro b' o v hv
    simp only [GS.commit] at hv
    split at hv
    · rename_i hb; subst hb
      split at hv
      · simp only [World.cell?, hR.obj]; simpa using hv
      · exact hI.kok.cell _ _ _ hv
    · exact hI.kok.cell _ _ _ hv
  · intro b' o v hv
    simp only [GS.commit] at hv
    split at hv
    · split at hv
      · rename_i h; exact h1 o v h.1 h.2 hv
      · exact hI.kok.one _ _ _ hv
    · exact hI.kok.one _ _ _ hv
  · intro j c' hj
    by_cases h : j = d
    · subst h
      rw [hd1] at hj ⊢
      cases hj
      refine .inr ⟨b, e + k, lim, vals, T, ⟨by simp [GS.commit], hR.obj, by simpa using hk, hR.lim, fun o ho => ?_, fun j a hj => by simp at hj⟩⟩
      simp only [GS.commit, if_true]; rw [if_neg (by omega)]; exact hR.K o (by omega)
    · obtain ⟨hji, hl, he⟩ := key j h ⟨c', hj⟩
      rw [he] at hj ⊢
      rcases hI.res j c' hj with ⟨h2, h3⟩ | ⟨b', e', lim', vs, T', hR'⟩
      · left; refine ⟨h2, ?_⟩
        simp only [GS.commit]; rw [if_neg (by rintro ⟨hh, _⟩; exact h hh)]; exact h3
      · right
        have hne : b' ≠ b := by
          rintro rfl
          exact hI.dist j i _ _ _ hji hl hlive hR'.m hmi
        refine ⟨b', e', lim', vs, T', ⟨hle.m _ _ _ hR'.m, hR'.obj, hR'.fit, hR'.lim, fun o ho => ?_, fun j a hj => ?_⟩⟩
        · simp only [GS.commit]; rw [if_neg hne]; exact hR'.K o ho
        · obtain ⟨v, hv, hr⟩ := hR'.rel j a hj
          exact ⟨v, hv, hr.mono hle⟩
  · intro j
    obtain ⟨N, hN⟩ := hI.fresh j
    refine ⟨N + γ + 1, fun g' hg' => ?_⟩
    simp only [GS.commit]
    rw [if_neg (by rintro ⟨_, h⟩; omega)]; exact hN _ (by omega)
  · intro j l b' x y hjl hj hl hx hy
    have mo : ∀ j, j ≠ d → ∀ b x, (G.commit b vals e k lim d γ).m j (newS (upd σ i (g, .dead)) d γ [] j).1 = some (b, x) → True := fun _ _ _ _ _ => trivial
    have key2 : ∀ j, j ≠ d → live (newS (upd σ i (g, .dead)) d γ []) j → ∀ b' x, (G.commit b vals e k lim d γ).m j (newS (upd σ i (g, .dead)) d γ [] j).1 = some (b', x) → j ≠ i ∧ live σ j ∧ G.m j (σ j).1 = some (b', x) := by
      intro j hj hl b' x hx
      obtain ⟨h2, h3, h4⟩ := key j hj hl
      rw [h4] at hx
      simp only [GS.commit] at hx
      rw [if_neg (by rintro ⟨h, _⟩; exact hj h)] at hx
      exact ⟨h2, h3, hx⟩
    have keyd : ∀ b' x, (G.commit b vals e k lim d γ).m d (newS (upd σ i (g, .dead)) d γ [] d).1 = some (b', x) → b' = b := by
      intro b' x hx
      rw [hd1] at hx
      simp [GS.commit] at hx
      exact hx.1.symm
    by_cases ej : j = d
    · subst ej
      obtain rfl := keyd _ _ hx
      obtain ⟨h2, h3, h4⟩ := key2 l (Ne.symm hjl) hl _ _ hy
      exact hI.dist l i _ _ _ h2 h3 hlive h4 hmi
    · obtain ⟨h2, h3, h4⟩ := key2 j ej hj _ _ hx
      by_cases el : l = d
      · subst el
        obtain rfl := keyd _ _ hy
        exact hI.dist j i _ _ _ h2 h3 hlive h4 hmi
      · obtain ⟨h5, h6, h7⟩ := key2 l el hl _ _ hy
        exact hI.dist j l _ _ _ hjl h3 h6 h4 h7
  · funext o; simp only [GS.commit]; rw [if_neg (by rintro rfl; exact hn hf)]
  · rintro b' ⟨j, x, hj, hx⟩
    left
    by_cases h : j = d
    · subst h
      rw [hd1] at hx
      simp [GS.commit] at hx
      obtain ⟨rfl, _⟩ := hx; exact hf
    · obtain ⟨_, h3, h4⟩ := key j h hj
      rw [h4] at hx
      simp only [GS.commit] at hx
      rw [if_neg (by rintro ⟨hh, _⟩; exact h hh)] at hx
      exact ⟨j, x, h3, hx⟩
end Go.Abs

namespace Go.Abs
section
variable {P : Program} {G : GS} {w : World} {σ : Sig} {a b c v : AV} {p : Prop} {va vb vc : Value}

theorem setL_get {α : Type} : ∀ (cs l : List α) (off j : Nat), off + cs.length ≤ l.length → (setL l off cs)[j]? = if off ≤ j ∧ j < off + cs.length then cs[j - off]? else l[j]?
  | [], l, off, j, h => by rw [setL, if_neg (by simp)]
  | x :: cs, l, off, j, h => by
    simp only [List.length_cons] at h
    rw [setL, setL_get cs (l.set off x) (off + 1) j (by simp; omega)]
    by_cases h1 : off + 1 ≤ j ∧ j < off + 1 + cs.length
    · rw [if_pos h1, if_pos (by simp; omega)]
      rw [show j - off = (j - (off + 1)) + 1 by omega, List.getElem?_cons_succ]
    · rw [if_neg h1, List.getElem?_set]
      by_cases h2 : off = j
      · subst h2
        rw [if_pos rfl, if_pos (by omega), if_pos (by simp)]
        simp
      · rw [if_neg h2, if_neg (by simp; omega)]

/-- A row that is written over from a place on. -/
theorem over_eq {α : Type} (vs l : List α) (off : Nat) (h : off + vs.length ≤ l.length) : l.take off ++ vs ++ l.drop (off + vs.length) = setL l off vs := by
  apply List.ext_getElem?
  intro j
  rw [setL_get vs l off j h, List.append_assoc, List.getElem?_append]
  simp only [List.length_take]
  rw [Nat.min_eq_left (by omega)]
  by_cases h1 : j < off
  · rw [if_pos h1, if_neg (by omega), List.getElem?_take, if_pos h1]
  · rw [if_neg h1, List.getElem?_append]
    by_cases h2 : j - off < vs.length
    · rw [if_pos h2, if_pos (by omega)]
    · rw [if_neg h2, if_neg (by omega), List.getElem?_drop]
      congr 1; omega

theorem e_st {t : TypeId} {sz : Nat} (hI : Inv G σ w) (hs : szOf P t = some sz) (ha : Rel G a va) (hb : Rel G b vb) {σ' : Sig} (h : stO sz σ b a = some (p, v, σ')) (hp : p) :
    ∃ w', (Instr.storeAt t va vb).run P w = .ok () w' ∧ v = .junk ∧ StepOK G σ w G σ' w' := by
  unfold stO at h
  split at h
  · rename_i i g off
    split at h
    · rename_i q cs g' c hcs hσ
      injection h with h; injection h with h1 h2; injection h2 with h2 h3
      subst h1; subst h2; subst h3
      obtain ⟨rfl, hq, hfit⟩ := hp
      obtain ⟨bk, lim, rfl, hm⟩ := ha
      obtain ⟨g1, g2, g3, g4⟩ := cellsO_rel hb hcs hq
      rcases hI.res i c (by rw [hσ]) with ⟨_, hn⟩ | ⟨b', e, lim', vals, T, hR⟩
      · rw [hσ, hm] at hn; cases hn
      rw [hσ] at hR
      have := hR.m; rw [hm] at this; cases this
      have hlen : vb.cells.toList.length = sz := by simpa using g2
      have hfit' : off + 0 + vb.cells.toList.length ≤ vals.size := by have := hR.fit; have := hR.lim; omega
      have hst := run_storeCells_at P bk off T vb.cells.toList 0 vals w hR.obj hfit' (fun x hx => by
        obtain ⟨j, hj⟩ := List.getElem?_of_mem hx
        have hjl : j < cs.length := by
          have := (List.getElem?_eq_some_iff.1 hj).1; omega
        obtain ⟨u, hu, hr⟩ := g1.get j cs[j] (List.getElem?_eq_getElem hjl)
        rw [hj] at hu; cases hu
        exact scal_one hr (by rw [List.all_eq_true] at g4; exact g4 _ (List.getElem_mem hjl)))
      simp only [Nat.add_zero] at hst
      rw [over_eq _ _ _ (by simpa using hfit')] at hst
      refine ⟨_, ?_, rfl, write_ok hI hσ hR (vals' := (setL vals.toList off vb.cells.toList).toArray) (by simp [length_setL]) (fun o ho => by omega) (by rw [length_setL]; exact hR.fit) (fun j x hj => ?_)⟩
      · unfold Instr.storeAt storeVar
        simp only [Instr.sureAddr, Sem.run_bind, Sem.run_pure, Result.andThen_ok, run_szOf hs]
        rw [if_neg (by simp [g2])]
        exact hst
      · have hfit2 := hR.fit
        have hlim2 := hR.lim
        rw [setL_get _ _ _ _ (by omega)] at hj
        rw [Nat.zero_add, List.getElem?_toArray, setL_get _ _ _ _ (by simp at hfit' ⊢; omega)]
        rw [g3] at hj
        rw [hlen]
        by_cases hc : off ≤ j ∧ j < off + sz
        · rw [if_pos hc] at hj ⊢
          exact g1.get _ _ hj
        · rw [if_neg hc] at hj ⊢
          have := hR.rel j x hj
          simpa using this
    · cases h
  · cases h

theorem e_box {t : TypeId} {sz d γ : Nat} {cs : List AV} (hI : Inv G σ w) (hγ : G.m d γ = none) (hb : Rel G b vb) (h : cellsO sz b = some (p, cs)) (hp : p) :
    ∃ v' w' G', (Instr.box t vb).run P w = .ok v' w' ∧ Rel G' (.ref d γ 0) v' ∧ StepOK G σ w G' (newS σ d γ cs) w' := by
  obtain ⟨g1, g2, g3, g4⟩ := cellsO_rel hb h hp
  have hl := g1.length
  refine ⟨.pointer (some ⟨w.heap.size, 0, none⟩), w.alloc (.cells vb.cells t), _, ?_, ⟨_, _, rfl, grow_m⟩, alloc_ok hI vb.cells t 0 d γ hγ cs (by simp at hl; omega) (by omega) fun j a hj => by simpa using g1.get j a hj⟩
  simp only [Instr.box, newVar, newRow, Sem.run_bind, run_newObj, Result.andThen_ok]; rfl

theorem e_new {t : TypeId} {d γ : Nat} {z : List AV} (hI : Inv G σ w) (hγ : G.m d γ = none) (hz : zeroOf P t = some z) :
    ∃ v' w' G', (Instr.alloc t true (.tuple #[])).run P w = .ok v' w' ∧ Rel G' (.ref d γ 0) v' ∧ StepOK G σ w G' (newS σ d γ z) w' := by
  obtain ⟨i, zv, hi, hzv, hzs, _, hzr, hzl, _⟩ := zero_rel (G := G) hz
  have hl := hzr.length
  refine ⟨.pointer (some ⟨w.heap.size, 0, none⟩), w.alloc (.cells zv.cells t), _, ?_, ⟨_, _, rfl, grow_m⟩, alloc_ok hI zv.cells t 0 d γ hγ z (by simp at hl; omega) (by omega) fun j a hj => by simpa using hzr.get j a hj⟩
  simp only [Instr.alloc, newVar, newRow, Sem.run_bind, run_zero hi hzv, run_newObj, Result.andThen_ok]; rfl

/-! rows, flattened -/
theorem flat_get {α : Type} {sz : Nat} : ∀ (rows : List (List α)), (∀ r ∈ rows, r.length = sz) → ∀ i j, i < rows.length → j < sz → rows.flatten[i * sz + j]? = (rows.getD i [])[j]?
  | r :: rows, h, 0, j, _, hj => by
    have := h r (by simp)
    simp only [List.flatten_cons, Nat.zero_mul, Nat.zero_add]
    rw [List.getElem?_append_left (by omega)]; rfl
  | r :: rows, h, i + 1, j, hi, hj => by
    have hr := h r (by simp)
    simp only [List.flatten_cons]
    rw [show (i + 1) * sz + j = sz + (i * sz + j) by rw [Nat.add_mul]; omega, List.getElem?_append_right (by omega), hr, Nat.add_sub_cancel_left,
      flat_get rows (fun r hr => h r (by simp [hr])) i j (by simpa using hi) hj]
    rfl
theorem flat_length {α : Type} {sz : Nat} : ∀ (rows : List (List α)), (∀ r ∈ rows, r.length = sz) → rows.flatten.length = rows.length * sz
  | [], _ => by simp
  | r :: rows, h => by
    simp only [List.flatten_cons, List.length_append, List.length_cons]
    rw [flat_length rows (fun r hr => h r (by simp [hr])), h r (by simp), Nat.add_mul]; omega
theorem flat_ext {α : Type} {sz : Nat} {l l' : List α} {n : Nat} (h1 : l.length = n * sz) (h2 : l'.length = n * sz) (h : ∀ i j, i < n → j < sz → l[i * sz + j]? = l'[i * sz + j]?) : l = l' := by
  apply List.ext_getElem?
  intro q
  by_cases hq : q < n * sz
  · have hsz : 0 < sz := Nat.pos_of_ne_zero fun hz => by rw [hz] at hq; omega
    have := h (q / sz) (q % sz) (Nat.div_lt_of_lt_mul (by rw [Nat.mul_comm]; exact hq)) (Nat.mod_lt _ hsz)
    rwa [show q / sz * sz + q % sz = q by rw [Nat.mul_comm]; exact Nat.div_add_mod q sz] at this
  · rw [List.getElem?_eq_none (by omega), List.getElem?_eq_none (by omega)]
theorem flat_set {α : Type} {sz : Nat} (rows : List (List α)) (h : ∀ r ∈ rows, r.length = sz) (i : Nat) (hi : i < rows.length) (cs : List α) (hc : cs.length = sz) : (rows.set i cs).flatten = setL rows.flatten (i * sz) cs := by
  have hset : ∀ r ∈ rows.set i cs, r.length = sz := fun r hr => by
    rcases List.mem_or_eq_of_mem_set hr with h1 | rfl
    · exact h r h1
    · exact hc
  have hfit : i * sz + cs.length ≤ rows.flatten.length := by
    rw [flat_length rows h, hc]
    have : (i + 1) * sz ≤ rows.length * sz := Nat.mul_le_mul_right _ hi
    rw [Nat.add_mul] at this; omega
  refine flat_ext (sz := sz) (n := rows.length) (by rw [flat_length _ hset]; simp) (by rw [length_setL, flat_length rows h]) fun i' j hi' hj => ?_
  rw [flat_get _ hset i' j (by simpa using hi') hj, setL_get _ _ _ _ hfit, flat_get _ h i' j hi' hj, hc]
  by_cases he : i' = i
  · subst he
    rw [if_pos (by omega), Nat.add_sub_cancel_left, List.getD_eq_getElem?_getD, List.getElem?_set_self hi]; rfl
  · rw [if_neg, List.getD_eq_getElem?_getD, List.getD_eq_getElem?_getD, List.getElem?_set_ne (Ne.symm he)]
    intro ⟨h1, h2⟩
    rcases Nat.lt_or_gt_of_ne he with h3 | h3
    · have : (i' + 1) * sz ≤ i * sz := Nat.mul_le_mul_right _ h3
      rw [Nat.add_mul] at this; omega
    · have : (i + 1) * sz ≤ i' * sz := Nat.mul_le_mul_right _ h3
      rw [Nat.add_mul] at this; omega

/-- Rows whose cells are persistent from a place on. -/
theorem rows_of_flat {B o sz : Nat} {rows : List (List AV)} (hr : ∀ r ∈ rows, r.length = sz) (h : ∀ q a, rows.flatten[q]? = some a → ∃ v, G.K B (o + q) = some v ∧ Rel (GS.pure G.K) a v) : RelRows G B o sz rows :=
  .of_get fun i hi => by
    have hl : (rows.getD i []).length = sz := by
      rw [List.getD_eq_getElem?_getD, List.getElem?_eq_getElem hi]; exact hr _ (List.getElem_mem hi)
    refine ⟨RelRow.of_get fun j a hj => ?_, hl⟩
    have hjs : j < sz := by have := (List.getElem?_eq_some_iff.1 hj).1; omega
    have := h (i * sz + j) a (by rw [flat_get _ hr i j hi hjs]; exact hj)
    rwa [← Nat.add_assoc] at this
theorem RelRows.len {B o sz : Nat} {rows : List (List AV)} (h : RelRows G B o sz rows) : ∀ r ∈ rows, r.length = sz := fun r hr => by
  obtain ⟨i, hi, rfl⟩ := List.getElem_of_mem hr
  have := (h.get i hi).2
  rwa [List.getD_eq_getElem?_getD, List.getElem?_eq_getElem hi] at this
theorem RelRows.flatp {B o sz : Nat} {rows : List (List AV)} (h : RelRows G B o sz rows) : ∀ q a, rows.flatten[q]? = some a → ∃ v, G.K B (o + q) = some v ∧ Rel (GS.pure G.K) a v := fun q a hq => by
  have hq' := (List.getElem?_eq_some_iff.1 hq).1
  rw [flat_length _ h.len] at hq'
  have hsz : 0 < sz := Nat.pos_of_ne_zero fun hz => by rw [hz] at hq'; omega
  have hdiv := Nat.div_lt_of_lt_mul (show q < sz * rows.length by rw [Nat.mul_comm]; exact hq')
  have hmod := Nat.mod_lt q hsz
  have hqq : q / sz * sz + q % sz = q := by rw [Nat.mul_comm]; exact Nat.div_add_mod q sz
  rw [← hqq, flat_get _ h.len _ _ hdiv hmod] at hq
  have := (h.get _ hdiv).1.getp _ _ hq
  rwa [Nat.add_assoc, hqq] at this
theorem RelRows.flat {B o sz : Nat} {rows : List (List AV)} (h : RelRows G B o sz rows) : ∀ q a, rows.flatten[q]? = some a → ∃ v, G.K B (o + q) = some v ∧ Rel G a v := fun q a hq => by
  obtain ⟨v, h1, h2⟩ := h.flatp q a hq; exact ⟨v, h1, h2.mono G.pure_le⟩

theorem bsl_fill {e : Nat → AV} {ρ : Operand → Value} (hρ : ORel G e ρ) {sz : Nat} :
    ∀ {parts : List (Nat × Operand)} {ps : List (Nat × IOpd)} {rows rows' : List (List AV)} {A : Array Value} {p : Prop}, cElems parts = some ps → (∀ r ∈ rows, r.length = sz) → RelL (GS.pure G.K) rows.flatten A.toList →
      A.toList.all Value.oneCell' = true → bslO e sz rows ps = some (p, rows') → p →
      ∃ A', Instr.fill (fun i => some (i * sz, sz)) A (parts.map fun x => (x.1, ρ x.2)) = some A' ∧ (∀ r ∈ rows', r.length = sz) ∧ rows'.length = rows.length ∧ RelL (GS.pure G.K) rows'.flatten A'.toList ∧ A'.toList.all Value.oneCell' = true
  | [], ps, rows, rows', A, p, h, hr, hl, ho, hb, hp => by
    simp [cElems] at h; subst h
    simp only [bslO] at hb
    obtain ⟨_, rfl⟩ := ov_inj hb
    exact ⟨A, rfl, hr, rfl, hl, ho⟩
  | (i, x) :: parts, ps, rows, rows', A, p, h, hr, hl, ho, hb, hp => by
    simp only [cElems, Option.bind_eq_bind, Option.bind_eq_some_iff] at h
    obtain ⟨y, hy, r, hr', h⟩ := h
    cases h
    simp only [bslO] at hb
    split at hb
    · rename_i q cs hcs
      split at hb
      · rename_i q' c' hc'
        obtain ⟨rfl, rfl⟩ := ov_inj hb
        obtain ⟨h1, h2, h3⟩ := hp
        obtain ⟨g1, g2, g3, g4⟩ := cellsO_rel (hρ _ _ hy) hcs h1
        have hlen := hl.length
        rw [flat_length _ hr] at hlen
        have hfit : i * sz + sz ≤ rows.length * sz := by
          have : (i + 1) * sz ≤ rows.length * sz := Nat.mul_le_mul_right _ h2
          rwa [Nat.add_mul, Nat.one_mul] at this
        have g3' : (normL cs).length = sz := by simp [normL, g3]
        have hset : ∀ r ∈ rows.set i (normL cs), r.length = sz := fun r hr2 => by
          rcases List.mem_or_eq_of_mem_set hr2 with h4 | rfl
          · exact hr r h4
          · exact g3'
        rw [List.map_cons, fill_step (fun i => some (i * sz, sz)) (off := i * sz) (size := sz) rfl g2 (by rw [g2]; simp at hlen; omega)]
        have hone : (setL A.toList (i * sz) (ρ x).cells.toList).all Value.oneCell' = true := by
          rw [List.all_eq_true] at ho ⊢
          intro u hu
          obtain ⟨j, hj⟩ := List.getElem?_of_mem hu
          rw [setL_get _ _ _ _ (by simp [g2]; simp at hlen; omega)] at hj
          split at hj
          · have hjl : j - i * sz < cs.length := by
              have := (List.getElem?_eq_some_iff.1 hj).1; simp [g2] at this; omega
            obtain ⟨u', hu', hr2⟩ := g1.get _ cs[j - i * sz] (List.getElem?_eq_getElem hjl)
            rw [hj] at hu'; cases hu'
            exact scal_one hr2 (by rw [List.all_eq_true] at g4; exact g4 _ (List.getElem_mem hjl))
          · exact ho _ (List.mem_of_getElem? hj)
        have hrl : RelL (GS.pure G.K) (rows.set i (normL cs)).flatten (setL A.toList (i * sz) (ρ x).cells.toList).toArray.toList := by
          rw [flat_set rows hr i h2 (normL cs) g3']
          simpa using RelL.setL g1.norm hl (i * sz)
        obtain ⟨A', e1, e2, e3, e4, e5⟩ := bsl_fill hρ hr' hset hrl (by simpa using hone) hc' h3
        exact ⟨A', e1, e2, by rw [e3]; simp, e4, e5⟩
      · cases hb
    · cases hb

theorem replicate_flat_get {α : Type} {sz n : Nat} {z : List α} (hz : z.length = sz) (q : Nat) (hq : q < n * sz) : (List.replicate n z).flatten[q]? = z[q % sz]? := by
  have hsz : 0 < sz := Nat.pos_of_ne_zero fun h => by rw [h] at hq; omega
  have hdiv : q / sz < n := Nat.div_lt_of_lt_mul (by rw [Nat.mul_comm]; exact hq)
  have hqq : q / sz * sz + q % sz = q := by rw [Nat.mul_comm]; exact Nat.div_add_mod q sz
  have := flat_get (List.replicate n z) (sz := sz) (fun r hr => by rw [(List.mem_replicate.1 hr).2, hz]) (q / sz) (q % sz) (by simpa using hdiv) (Nat.mod_lt _ hsz)
  rw [hqq] at this
  rw [this, List.getD_eq_getElem?_getD, List.getElem?_replicate, if_pos hdiv]; rfl

/-- A row of zero values. -/
def zeroRow (z : Array Value) (m : Nat) : Array Value := (Array.range m).map fun i => z[i % z.size]!
theorem zeroRow_get {z : Array Value} {m q : Nat} (hz : 0 < z.size) (hq : q < m) : (zeroRow z m).toList[q]? = z.toList[q % z.size]? := by
  have hm := Nat.mod_lt q hz
  simp only [zeroRow, Array.toList_map, List.getElem?_map, Array.toList_range, List.getElem?_range hq, Option.map_some]
  rw [getElem!_pos z _ hm, List.getElem?_eq_getElem (by simpa using hm)]; rfl
theorem zeroRow_rel {z : List AV} {zv : Array Value} {sz n : Nat} (hr : RelL G z zv.toList) (hl : z.length = sz) (h0 : 0 < sz) : RelL G (List.replicate n z).flatten (zeroRow zv (n * sz)).toList := by
  have hzl := hr.length
  have hzs : zv.size = sz := by simp at hzl; omega
  refine RelL.of_get ?_ fun q a hq => ?_
  · rw [flat_length (sz := sz) _ (fun r hr => by rw [(List.mem_replicate.1 hr).2, hl])]; simp [zeroRow]
  · have hq' := (List.getElem?_eq_some_iff.1 hq).1
    rw [flat_length (sz := sz) _ (fun r hr => by rw [(List.mem_replicate.1 hr).2, hl])] at hq'
    simp only [List.length_replicate] at hq'
    rw [replicate_flat_get hl q hq'] at hq
    rw [zeroRow_get (by omega) hq', hzs]
    exact hr.get _ _ hq
theorem zeroRow_one {zv : Array Value} {m : Nat} (h : zv.toList.all Value.oneCell' = true) (h0 : 0 < zv.size) : (zeroRow zv m).toList.all Value.oneCell' = true := by
  rw [List.all_eq_true] at h ⊢
  intro u hu
  obtain ⟨q, hq⟩ := List.getElem?_of_mem hu
  have hq' := (List.getElem?_eq_some_iff.1 hq).1
  rw [zeroRow_get h0 (by simpa [zeroRow] using hq')] at hq
  exact h _ (List.mem_of_getElem? hq)

theorem e_bsl {t u : TypeId} {i : TypeInfo} {z : List AV} {len : Nat} {parts : Array (Nat × Operand)} {ps : List (Nat × IOpd)} {rows : List (List AV)} {e : Nat → AV} {ρ : Operand → Value} (hρ : ORel G e ρ) (hI : Inv G σ w)
    (ht : P.underlying t = some (.slice u)) (hi : P.info? u = some i) (hz : zeroOf P u = some z) (hc : cElems parts.toList = some ps) (hn : len * i.size ≤ 2 ^ 24) (h0 : 0 < i.size)
    (h : bslO e i.size (List.replicate len z) ps = some (p, rows)) (hp : p) :
    ∃ v' w' G', (Instr.buildSlice t len (parts.map fun x => (x.1, ρ x.2))).run P w = .ok v' w' ∧ Rel G' (.slc i.size rows .full) v' ∧ StepOK G σ w G' σ w' := by
  obtain ⟨i', zv, hi', hzv, hzs, _, hzr, hzl, hzo⟩ := zero_rel (G := GS.pure G.K) hz
  rw [hi] at hi'; cases hi'
  obtain ⟨A', e1, e2, e3, e4, e5⟩ := bsl_fill hρ (A := zeroRow zv.cells (len * i.size)) hc (fun r hr => by rw [(List.mem_replicate.1 hr).2, hzl]) (zeroRow_rel hzr hzl h0) (zeroRow_one hzo (by omega)) h hp
  have hA := e4.length
  rw [flat_length _ e2, e3, List.length_replicate] at hA
  have hAs : A'.size = len * i.size := by simpa using hA
  have hone : ∀ (o : Nat) (v : Value), A'[o]? = some v → v.oneCell' = true := fun o v hv => by
    rw [List.all_eq_true] at e5; exact e5 v (List.mem_of_getElem? (by simpa using hv : A'.toList[o]? = some v))
  have hal := allocK_ok hI A' u hone
  refine ⟨.slice (some ⟨w.heap.size, 0, none⟩) len len, w.alloc (.cells A' u), _, ?_, .inr ⟨w.heap.size, 0, len, ?_, ?_, ?_, ?_⟩, hal⟩
  · unfold Instr.buildSlice
    rw [Sem.run_bind, run_underlying ht, Result.andThen_ok]
    simp only [Sem.run_bind, sizeOf, run_typeInfo w hi, Result.andThen_ok, Sem.run_pure]
    rw [if_neg (by omega)]
    by_cases hz0 : len * i.size = 0
    · have : (Array.range (len * i.size)).map (fun x => (#[] : Array Value)[x % (#[] : Array Value).size]!) = zeroRow zv.cells (len * i.size) := by
        rw [hz0]; simp [zeroRow]
      rw [if_pos hz0]
      simp only [Array.toList_map, pure_bind]
      rw [this, e1]
      simp only [Sem.run_bind, newRow, run_newObj, Result.andThen_ok]; rfl
    · rw [if_neg hz0]
      simp only [Sem.run_bind, run_zero hi hzv, Result.andThen_ok, Sem.run_pure, Array.toList_map]
      show Sem.run P (match Instr.fill _ (zeroRow zv.cells (len * i.size)) _ with | some cells => _ | _ => _) w = _
      rw [e1]
      simp only [Sem.run_bind, newRow, run_newObj, Result.andThen_ok]; rfl
  · rw [e3, List.length_replicate]
  · rw [e3, List.length_replicate]; exact Nat.le_refl _
  · refine rows_of_flat e2 fun q a hq => ?_
    obtain ⟨v', hv, hr⟩ := e4.get q a hq
    have hlt := (List.getElem?_eq_some_iff.1 hv).1
    refine ⟨v', ?_, hr.mono (GS.pure_mono hal.le)⟩
    rw [Nat.zero_add]
    simp only [GS.growK, if_true]
    simpa using hv
  · show _ = _; rw [e3, List.length_replicate]
end
end Go.Abs

namespace Go.Abs
section
variable {P : Program} {G : GS} {w : World} {σ : Sig} {a b c v : AV} {p : Prop} {va vb vc : Value}

theorem upd_upd {α : Type} (f : Nat → α) (i : Nat) (x y : α) : upd (upd f i x) i y = upd f i y := by
  funext j; rw [upd_eq, upd_eq, upd_eq]; by_cases h : j = i <;> simp [h]

/-- The cells of persistent rows, as a list of values. -/
theorem rows_vals {B o sz : Nat} {rows : List (List AV)} (hI : Inv G σ w) (h : RelRows G B o sz rows) :
    ∃ vs : List Value, vs.length = rows.length * sz ∧ RelL (GS.pure G.K) rows.flatten vs ∧ (∀ (j : Nat) (v : Value), vs[j]? = some v → w.cell? ⟨B, o + j, none⟩ = some v) ∧ ∀ v ∈ vs, v.oneCell' = true := by
  have hf := h.flat
  obtain ⟨cs, hl, hc⟩ := CellsAt.list (G := GS.pure G.K) (w := w) (b := B) (o := o) (l := rows.flatten) fun j a hj => by
    obtain ⟨v, hv, hr⟩ := h.flatp j a hj; exact ⟨v, hI.kok.cell _ _ _ hv, hr⟩
  have hlen : cs.length = rows.length * sz := by rw [hl.length, flat_length _ h.len]
  refine ⟨cs, hlen, hl, hc, fun v hv => ?_⟩
  obtain ⟨j, hj⟩ := List.getElem?_of_mem hv
  have hjl : j < rows.flatten.length := by
    have := (List.getElem?_eq_some_iff.1 hj).1; rw [hl.length] at this; exact this
  obtain ⟨u, hu, _⟩ := hf j _ (List.getElem?_eq_getElem hjl)
  have h1 := hI.kok.cell _ _ _ hu
  rw [hc j v hj] at h1
  cases h1
  exact hI.kok.one _ _ _ hu

/-- What is appended. -/
theorem src_vals {sz : Nat} {ys : List (List AV)} {q : Prop} (hI : Inv G σ w) (hb : Rel G b vb) (h : rowsO sz b = some (q, ys)) (hq : q) :
    ∃ vs : List Value, vs.length = ys.length * sz ∧ RelL (GS.pure G.K) ys.flatten vs ∧ (∀ v ∈ vs, v.oneCell' = true) ∧ (Builtin.lenOf vb).run P w = .ok ys.length w ∧
      ∀ w' : World, w'.heap = w.heap → (Builtin.firstCells sz ys.length vb).run P w' = .ok vs.toArray w' := by
  unfold rowsO at h
  split at h
  · obtain ⟨_, rfl⟩ := ov_inj h
    simp only [Rel] at hb; subst hb
    exact ⟨[], by simp, rfl, by simp, rfl, fun w' _ => rfl⟩
  · obtain ⟨rfl, rfl⟩ := ov_inj h
    subst hq
    rcases hb with ⟨rfl, rfl⟩ | ⟨B, o, cap, rfl, _, hr, _⟩
    · exact ⟨[], by simp, rfl, by simp, rfl, fun w' _ => rfl⟩
    · obtain ⟨vs, h1, h2, h3, h4⟩ := rows_vals hI hr
      refine ⟨vs, h1, h2, h4, rfl, fun w' hw => ?_⟩
      refine run_firstCells_some (P := P) w' _ _ _ _ _ vs h1 fun j v hj => ?_
      rw [Addr.add_lit]
      have := h3 j v hj
      simpa [World.cell?, hw] using this
  · cases h

/-- append, where there is room. -/
theorem run_app_room {t u e e' ty : TypeId} {i : TypeInfo} {bk off sLen sCap n : Nat} {vs : List Value} {vals : Array Value} {T : TypeId} (ht : P.underlying t = some (.slice e)) (hu : P.underlying u = some (.slice e')) (hi : P.info? e = some i)
    (hlen : (Builtin.lenOf vb).run P w = .ok n w) (hfirst : (Builtin.firstCells i.size n vb).run P w = .ok vs.toArray w) (hvs : vs.length = n * i.size) (hone : ∀ v ∈ vs, v.oneCell' = true)
    (hobj : w.heap[bk]? = some (.cells vals T (0, 0))) (hroom : sLen + n ≤ sCap) (hfit : off + sLen * i.size + vs.length ≤ vals.size) :
    (Builtin.append_ #[t, u] ty #[.slice (some ⟨bk, off, none⟩) sLen sCap, vb]).run P w =
      .ok (.slice (some ⟨bk, off, none⟩) (sLen + n) sCap) (w.setRow bk (setL vals.toList (off + sLen * i.size) vs).toArray) := by
  have hst := run_storeCells_at P bk (off + sLen * i.size) T vs 0 vals w hobj (by simpa using hfit) hone
  simp only [Nat.add_zero] at hst
  rw [over_eq _ _ _ (by simpa using hfit)] at hst
  simp [Builtin.append_, run_underlying ht, run_underlying hu, sizeOf, run_typeInfo w hi, hlen, hroom, hfirst, Addr.add_lit, hst]

theorem run_app_nil {t u e e' ty : TypeId} {i : TypeInfo} (ht : P.underlying t = some (.slice e)) (hu : P.underlying u = some (.slice e')) (hi : P.info? e = some i)
    (hlen : (Builtin.lenOf vb).run P w = .ok 0 w) (hfirst : (Builtin.firstCells i.size 0 vb).run P w = .ok #[] w) :
    (Builtin.append_ #[t, u] ty #[.slice none 0 0, vb]).run P w = .ok (.slice none 0 0) w := by
  simp [Builtin.append_, run_underlying ht, run_underlying hu, sizeOf, run_typeInfo w hi, hlen, hfirst]

/-- append of nothing, where nothing is written. -/
theorem run_app_none {t u e e' ty : TypeId} {i : TypeInfo} {x : Addr} {sLen sCap : Nat} (ht : P.underlying t = some (.slice e)) (hu : P.underlying u = some (.slice e')) (hi : P.info? e = some i)
    (hlen : (Builtin.lenOf vb).run P w = .ok 0 w) (hfirst : (Builtin.firstCells i.size 0 vb).run P w = .ok #[] w) (hc : sLen ≤ sCap) :
    (Builtin.append_ #[t, u] ty #[.slice (some x) sLen sCap, vb]).run P w = .ok (.slice (some x) sLen sCap) w := by
  simp [Builtin.append_, run_underlying ht, run_underlying hu, sizeOf, run_typeInfo w hi, hlen, hfirst, hc, storeCells]

/-- append that makes a new row. -/
theorem run_app_grow {t u e e' ty : TypeId} {i : TypeInfo} {zv : Value} {base : Option Addr} {sLen sCap n : Nat} {vs os : List Value} (ht : P.underlying t = some (.slice e)) (hu : P.underlying u = some (.slice e')) (hi : P.info? e = some i)
    (hz : i.zero = some zv) (hlen : (Builtin.lenOf vb).run P w = .ok n w) (hfirst : (Builtin.firstCells i.size n vb).run P w.drew = .ok vs.toArray w.drew)
    (hold : (Builtin.firstCells i.size sLen (.slice base sLen sCap)).run P w.drew = .ok os.toArray w.drew) (hno : sCap < sLen + n) (hb : (sLen + n) * i.bytes ≤ 140737488355328) (hb0 : 0 < i.bytes) :
    (Builtin.append_ #[t, u] ty #[.slice base sLen sCap, vb]).run P w =
      .ok (.slice (some ⟨w.heap.size, 0, none⟩) (sLen + n) (grownCap w (sLen + n) sCap e)) (w.drew.alloc (.cells (os.toArray ++ vs.toArray ++ Builtin.zeroCells zv.cells (grownCap w (sLen + n) sCap e - (sLen + n))) e)) := by
  have h1 : ¬ sLen + n ≤ sCap := by omega
  have h2 : ¬ (9223372036854775807 < ((sLen + n : Nat) : Int)) := by
    have : sLen + n ≤ (sLen + n) * i.bytes := Nat.le_mul_of_pos_right _ hb0
    omega
  have h3 : ¬ (281474976710656 < Builtin.nextslicecap (sLen + n) sCap * i.bytes) := by have := growslice_fits hno hb; omega
  have h4 : i.bytes ≠ 0 := by omega
  simp [Builtin.append_, run_underlying ht, run_underlying hu, sizeOf, run_typeInfo w hi, hlen, h1, h3, h4, Question.forced]
  rw [run_typeInfo _ hi]
  simp only [Result.andThen_ok, hold, hfirst, run_zero hi hz, newRow, Sem.run_bind, run_newObj, Sem.run_pure]
  simp only [grownCap, World.alloc]
  have key : ∀ Z : Array Value, os.toArray ++ (vs.toArray ++ Z) = (os ++ vs).toArray ++ Z := fun Z => by apply Array.toList_inj.1; simp
  rw [key]; rfl

/-- What append does. -/
theorem e_app {t u e e' ty : TypeId} {i : TypeInfo} {zv : Value} {d γ : Nat} {es ys : List (List AV)} {σ' : Sig} {q : Prop} (hI : Inv G σ w) (hγ : G.m d γ = none) (ht : P.underlying t = some (.slice e)) (hu : P.underlying u = some (.slice e')) (hi : P.info? e = some i)
    (hz : i.zero = some zv) (hzs : zv.cells.size = i.size) (h0 : 0 < i.size) (hb0 : 0 < i.bytes) (ha : Rel G a va) (hb : Rel G b vb)
    (h : baseO i.size σ a = some (p, es, σ')) (hp : p) (hy : rowsO i.size b = some (q, ys)) (hq : q) (hbytes : (es.length + ys.length) * i.bytes ≤ 140737488355328) :
    ∃ v' w' G', (Builtin.append_ #[t, u] ty #[va, vb]).run P w = .ok v' w' ∧ Rel G' (.slc i.size (es ++ ys) (.own d γ)) v' ∧ StepOK G σ w G' (newS σ' d γ []) w' := by
  obtain ⟨vs, hvl, hvr, hvo, hlen, hfirst⟩ := src_vals (P := P) hI hb hy hq
  -- the new row
  have grow : ∀ (base : Option Addr) (sCap : Nat) (os : List Value), va = .slice base es.length sCap → os.length = es.length * i.size → RelL (GS.pure G.K) es.flatten os → (∀ r ∈ es, r.length = i.size) → (∀ v ∈ os, v.oneCell' = true) →
      (Builtin.firstCells i.size es.length (.slice base es.length sCap)).run P w.drew = .ok os.toArray w.drew → sCap < es.length + ys.length → StepOK G σ w G σ' w →
      ∃ v' w' G', (Builtin.append_ #[t, u] ty #[va, vb]).run P w = .ok v' w' ∧ Rel G' (.slc i.size (es ++ ys) (.own d γ)) v' ∧ StepOK G σ w G' (newS σ' d γ []) w' := by
    intro base sCap os hva hol hor her hoo hold hno hst
    have hyr : ∀ r ∈ ys, r.length = i.size := by
      intro r hr
      unfold rowsO at hy
      split at hy
      · obtain ⟨_, rfl⟩ := ov_inj hy; simp at hr
      · obtain ⟨rfl, rfl⟩ := ov_inj hy; subst hq
        rcases hb with ⟨_, rfl⟩ | ⟨_, _, _, _, _, hrr, _⟩
        · simp at hr
        · exact hrr.len r hr
      · cases hy
    have hrun := run_app_grow (ty := ty) ht hu hi hz hlen (hfirst w.drew rfl) hold hno hbytes hb0
    generalize hcap : grownCap w (es.length + ys.length) sCap e = cap at hrun
    have hge : es.length + ys.length ≤ cap := by rw [← hcap]; exact grownCap_ge _ _ _ _
    generalize hvals : os.toArray ++ vs.toArray ++ Builtin.zeroCells zv.cells (cap - (es.length + ys.length)) = vals at hrun
    have hvsz : vals.size = cap * i.size := by
      rw [← hvals]
      simp only [Array.size_append, List.size_toArray, size_zeroCells, hzs, hol, hvl, ← Nat.add_mul]
      congr 1; omega
    have hsd : StepOK G σ w G σ' w.drew := hst.trans (StepOK.drew hst.inv rfl rfl rfl rfl)
    have hget : ∀ q', q' < (es.length + ys.length) * i.size → vals[q']? = (os ++ vs)[q']? := by
      intro q' hq'
      rw [← hvals, Array.getElem?_append_left (by simp [hol, hvl, ← Nat.add_mul]; exact hq')]
      simp
    have hal := alloc_ok hsd.inv vals e ((es.length + ys.length) * i.size) d γ hγ [] (by rw [hvsz]; simpa using Nat.mul_le_mul_right _ hge) (fun o v ho hv => by
      rw [hget o ho] at hv
      rcases List.mem_append.1 (List.mem_of_getElem? hv) with h | h
      · exact hoo v h
      · exact hvo v h) (by simp)
    refine ⟨_, _, _, by rw [hva]; exact hrun, .inr ⟨w.heap.size, 0, cap, ?_, ?_, ?_, ?_⟩, hsd.trans hal⟩
    · rw [List.length_append]
    · rw [List.length_append]; exact hge
    · refine rows_of_flat (fun r hr => ?_) fun q' x hq' => ?_
      · rcases List.mem_append.1 hr with h | h
        · exact her r h
        · exact hyr r h
      · have hq2 := (List.getElem?_eq_some_iff.1 hq').1
        rw [flat_length (sz := i.size) _ (fun r hr => by
          rcases List.mem_append.1 hr with h | h
          · exact her r h
          · exact hyr r h), List.length_append] at hq2
        have hrel : RelL (GS.pure G.K) (es ++ ys).flatten (os ++ vs) := by
          rw [List.flatten_append]
          refine RelL.of_get (by simp [hor.length, hvr.length]) fun j y hj => ?_
          rw [List.getElem?_append] at hj ⊢
          rw [hor.length]
          split at hj
          · rw [if_pos (by assumption)]; exact hor.get _ _ hj
          · rw [if_neg (by assumption)]; exact hvr.get _ _ hj
        obtain ⟨v', hv', hr'⟩ := hrel.get q' x hq'
        refine ⟨v', ?_, hr'.mono (GS.pure_mono hal.le)⟩
        rw [Nat.zero_add]
        have := grow_K (G := G) (B := w.drew.heap.size) (vals := vals) (k := (es.length + ys.length) * i.size) (d := d) (g := γ) hq2
        rw [show w.heap.size = w.drew.heap.size from rfl, this, hget _ hq2]; exact hv'
    · left
      rw [show w.heap.size = w.drew.heap.size from rfl, grow_m, List.length_append, hvsz]; simp
  -- nothing is appended, nothing is owned
  have same : ∀ (B o cap : Nat), va = .slice (some ⟨B, o, none⟩) es.length cap → es.length = cap → RelRows G B o i.size es → ys.length = 0 → StepOK G σ w G σ' w →
      ∃ v' w' G', (Builtin.append_ #[t, u] ty #[va, vb]).run P w = .ok v' w' ∧ Rel G' (.slc i.size (es ++ ys) (.own d γ)) v' ∧ StepOK G σ w G' (newS σ' d γ []) w' := by
    intro B o cap hva hcap hr hy0 hst
    have hys : ys = [] := List.eq_nil_of_length_eq_zero hy0
    subst hys
    have hvs : vs = [] := List.eq_nil_of_length_eq_zero (by rw [hvl]; simp)
    subst hvs
    refine ⟨.slice (some ⟨B, o, none⟩) es.length cap, w, G, ?_, ?_, hst.trans (nil_ok hst.inv d γ hγ)⟩
    · rw [hva]; exact run_app_none ht hu hi hlen (hfirst w rfl) (by omega)
    · rw [List.append_nil]
      exact .inr ⟨B, o, cap, rfl, by omega, hr, .inr hcap.symm⟩
  have nilcase : va = .slice none 0 0 → es = [] → StepOK G σ w G σ' w →
      ∃ v' w' G', (Builtin.append_ #[t, u] ty #[va, vb]).run P w = .ok v' w' ∧ Rel G' (.slc i.size (es ++ ys) (.own d γ)) v' ∧ StepOK G σ w G' (newS σ' d γ []) w' := by
    rintro hva rfl hst
    by_cases hy0 : ys.length = 0
    · have hys : ys = [] := List.eq_nil_of_length_eq_zero hy0
      subst hys
      have hvs : vs = [] := List.eq_nil_of_length_eq_zero (by rw [hvl]; simp)
      subst hvs
      refine ⟨.slice none 0 0, w, G, ?_, .inl ⟨rfl, rfl⟩, hst.trans (nil_ok hst.inv d γ hγ)⟩
      rw [hva]; exact run_app_nil ht hu hi hlen (hfirst w rfl)
    · exact grow none 0 [] hva (by simp) rfl (by simp) (by simp) rfl (by simp; omega) hst
  have olds : ∀ (B o cap : Nat), RelRows G B o i.size es → ∃ os : List Value, os.length = es.length * i.size ∧ RelL (GS.pure G.K) es.flatten os ∧ (∀ v ∈ os, v.oneCell' = true) ∧
      (Builtin.firstCells i.size es.length (.slice (some ⟨B, o, none⟩) es.length cap)).run P w.drew = .ok os.toArray w.drew := by
    intro B o cap hr
    obtain ⟨os, h1, h2, h3, h4⟩ := rows_vals hI hr
    refine ⟨os, h1, h2, h4, run_firstCells_some (P := P) w.drew _ _ _ _ _ os h1 fun j v hj => ?_⟩
    rw [Addr.add_lit]
    exact h3 j v hj
  unfold baseO at h
  split at h
  · injection h with h; injection h with h1 h2; injection h2 with h2 h3
    subst h1; subst h2; subst h3
    exact nilcase ha rfl (.refl hI)
  · rename_i sz' es' 
    injection h with h; injection h with h1 h2; injection h2 with h2 h3
    subst h1; subst h2; subst h3; subst hp
    rcases ha with ⟨hv, rfl⟩ | ⟨B, o, cap, hv, hc, hr, hfull⟩
    · exact nilcase hv rfl (.refl hI)
    · have hfull' : cap = es'.length := hfull
      by_cases hy0 : ys.length = 0
      · exact same B o cap hv hfull'.symm hr hy0 (.refl hI)
      · obtain ⟨os, h1, h2, h3, h4⟩ := olds B o cap hr
        exact grow _ cap os hv h1 h2 hr.len h3 h4 (by omega) (.refl hI)
  · rename_i sz' es' j g
    split at h
    · rename_i g' c hσ
      injection h with h; injection h with h1 h2; injection h2 with h2 h3
      subst h1; subst h2; subst h3
      obtain ⟨rfl, rfl, rfl⟩ := hp
      have hkill : StepOK G σ w G (upd σ j (g, .dead)) w := by exact StepOK.kill hI j g
      rcases ha with ⟨hv, rfl⟩ | ⟨B, o, cap, hv, hc, hr, htag⟩
      · exact nilcase hv rfl hkill
      · by_cases hroom : es'.length + ys.length ≤ cap
        · rcases htag with htag | hfull
          · -- in place
            rcases hI.res j [] (by rw [hσ]) with ⟨_, hn⟩ | ⟨b', e0, lim', vals, T, hR⟩
            · rw [hσ, htag] at hn; cases hn
            rw [hσ] at hR
            have := hR.m; rw [htag] at this; cases this
            have hmul : (es'.length + ys.length) * i.size ≤ cap * i.size := Nat.mul_le_mul_right _ hroom
            rw [Nat.add_mul] at hmul
            have hfit : o + es'.length * i.size + vs.length ≤ vals.size := by have := hR.lim; omega
            have hrun := run_app_room (ty := ty) ht hu hi hlen (hfirst w rfl) hvl hvo hR.obj hroom hfit
            have hw := write_ok hI hσ hR (c' := ys.flatten) (vals' := (setL vals.toList (o + es'.length * i.size) vs).toArray) (by simp [length_setL])
              (fun q' hq' => by rw [List.getElem?_toArray, setL_get _ _ _ _ (by simpa using hfit), if_neg (by omega)]; simp)
              (by rw [← hvr.length, hvl]; omega)
              (fun q' x hq' => by
                have hq2 := (List.getElem?_eq_some_iff.1 hq').1
                rw [List.getElem?_toArray, setL_get _ _ _ _ (by simpa using hfit), if_pos (by rw [hvr.length]; omega), Nat.add_sub_cancel_left]
                exact (hvr.mono G.pure_le).get _ _ hq')
            have hR2 : ResOK G (w.setRow B (setL vals.toList (o + es'.length * i.size) vs).toArray) j g ys.flatten B (o + es'.length * i.size) (o + cap * i.size) (setL vals.toList (o + es'.length * i.size) vs).toArray T := by
              refine ⟨hR.m, setRow_heap _ _ _ _ _ _ hR.obj, by rw [← hvr.length, hvl]; omega, by simp [length_setL]; exact hR.lim, hR.K, fun q' x hq' => ?_⟩
              have hq2 := (List.getElem?_eq_some_iff.1 hq').1
              rw [List.getElem?_toArray, setL_get _ _ _ _ (by simpa using hfit), if_pos (by rw [hvr.length]; omega), Nat.add_sub_cancel_left]
              exact (hvr.mono G.pure_le).get _ _ hq'
            have hcm := commit_ok hw.inv (i := j) (g := g) (c := ys.flatten) (by rw [upd_eq, if_pos rfl]) hR2 d (ys.length * i.size) γ hγ (by omega) (fun q' v' h1 h2 hv' => by
              rw [List.getElem?_toArray, setL_get _ _ _ _ (by simpa using hfit), if_pos (by omega)] at hv'
              exact hvo _ (List.mem_of_getElem? hv'))
            rw [upd_upd] at hcm
            refine ⟨_, _, _, by rw [hv]; exact hrun, .inr ⟨B, o, cap, ?_, ?_, ?_, ?_⟩, hw.trans hcm⟩
            · rw [List.length_append]
            · rw [List.length_append]; exact hroom
            · have hyl : ∀ r ∈ ys, r.length = i.size := by
                intro r hr'
                unfold rowsO at hy
                split at hy
                · obtain ⟨_, rfl⟩ := ov_inj hy; simp at hr'
                · obtain ⟨rfl, rfl⟩ := ov_inj hy
                  rcases hb with ⟨_, rfl⟩ | ⟨_, _, _, _, _, hrr, _⟩
                  · simp at hr'
                  · exact hq ▸ hrr.len r hr'
                · cases hy
              refine rows_of_flat (fun r hr' => ?_) fun q' x hq' => ?_
              · rcases List.mem_append.1 hr' with h | h
                · exact hr.len r h
                · exact hyl r h
              · rw [List.flatten_append, List.getElem?_append, flat_length _ hr.len] at hq'
                split at hq'
                · obtain ⟨v', hv', hr'⟩ := hr.flatp q' x hq'
                  exact ⟨v', hcm.le.K _ _ _ hv', hr'.mono (GS.pure_mono hcm.le)⟩
                · obtain ⟨v', hv', hr'⟩ := hvr.get _ _ hq'
                  refine ⟨v', ?_, hr'.mono (GS.pure_mono hcm.le)⟩
                  have hq2 := (List.getElem?_eq_some_iff.1 hv').1
                  simp only [GS.commit, if_true]
                  rw [if_pos (by omega), List.getElem?_toArray, setL_get _ _ _ _ (by simpa using hfit), if_pos (by omega)]
                  rw [show o + q' - (o + es'.length * i.size) = q' - es'.length * i.size by omega]; exact hv'
            · left
              simp only [GS.commit, and_self, if_true, List.length_append]
              rw [Nat.add_mul, Nat.add_assoc]
          · have hfull' : cap = es'.length := hfull
            exact same B o cap hv hfull'.symm hr (by omega) hkill
        · obtain ⟨os, h1, h2, h3, h4⟩ := olds B o cap hr
          exact grow _ cap os hv h1 h2 hr.len h3 h4 (by omega) hkill
    · cases h
  · cases h
end
end Go.Abs

/-! ### append to a slice that is to be written -/
namespace Go.Abs
section
variable {P : Program} {G : GS} {w : World} {σ : Sig} {a b c v : AV} {p : Prop} {va vb vc : Value}
/-- The ghost state in which a resource has another name. -/
def GS.rekey (G : GS) (b e lim d γ : Nat) : GS := ⟨G.K, fun i g => if i = d ∧ g = γ then some (b, e, lim) else G.m i g⟩
theorem rekey_ok {G : GS} {σ : Sig} {w : World} (hI : Inv G σ w) {i g : Nat} {c : List AV} (hσ : σ i = (g, .row c)) {b e lim : Nat} {vals : Array Value} {T : TypeId} (hR : ResOK G w i g c b e lim vals T) (d γ : Nat) (hγ : G.m d γ = none) :
    StepOK G σ w (G.rekey b e lim d γ) (newS (upd σ i (g, .dead)) d γ c) w := by
  have hlive : live σ i := ⟨c, by rw [hσ]⟩
  have hmi : G.m i (σ i).1 = some (b, e, lim) := by rw [hσ]; exact hR.m
  have hf : Foot G σ b := ⟨i, _, hlive, hmi⟩
  have hle : G.le (G.rekey b e lim d γ) := by
    refine ⟨fun b' o v hv => hv, fun j h x hx => ?_⟩
    simp only [GS.rekey]
    rw [if_neg]
    · exact hx
    · rintro ⟨rfl, rfl⟩; rw [hγ] at hx; cases hx
  have key : ∀ j, j ≠ d → live (newS (upd σ i (g, .dead)) d γ c) j → j ≠ i ∧ live σ j ∧ (newS (upd σ i (g, .dead)) d γ c j) = σ j := by
    intro j hj hl
    have hji : j ≠ i := by
      rintro rfl
      obtain ⟨c', hc'⟩ := hl
      rw [newS, upd_eq, if_neg hj, upd_eq, if_pos rfl] at hc'; cases hc'
    have he : newS (upd σ i (g, .dead)) d γ c j = σ j := by rw [newS, upd_eq, if_neg hj, upd_eq, if_neg hji]
    unfold live at hl; rw [he] at hl
    exact ⟨hji, hl, he⟩
  have hd1 : (newS (upd σ i (g, .dead)) d γ c d) = (γ, .row c) := by rw [newS, upd_eq, if_pos rfl]
  have hmd : ∀ j, j ≠ d → ∀ h, (G.rekey b e lim d γ).m j h = G.m j h := fun j hj h => by simp only [GS.rekey]; rw [if_neg fun h => hj h.1]
  have hmd2 : (G.rekey b e lim d γ).m d γ = some (b, e, lim) := by simp [GS.rekey]
  refine ⟨hle, ⟨⟨hI.kok.cell, hI.kok.one⟩, ?_, ?_, ?_⟩, ⟨rfl, rfl, rfl, Nat.le_refl _, fun _ _ _ => rfl, fun b o v hv => hv, fun _ _ _ => rfl⟩, ?_⟩
  · intro j c' hj
    by_cases h : j = d
    · subst h
      rw [hd1] at hj ⊢
      cases hj
      exact .inr ⟨b, e, lim, vals, T, ⟨hmd2, hR.obj, hR.fit, hR.lim, hR.K, fun q a hq => by obtain ⟨v, h1, h2⟩ := hR.rel q a hq; exact ⟨v, h1, h2.mono hle⟩⟩⟩
    · obtain ⟨hji, hl, he⟩ := key j h ⟨c', hj⟩
      rw [he] at hj ⊢
      rcases hI.res j c' hj with ⟨h1, h2⟩ | ⟨b', e', lim', vs, T', hR'⟩
      · exact .inl ⟨h1, by rw [hmd j h]; exact h2⟩
      · exact .inr ⟨b', e', lim', vs, T', ⟨by rw [hmd j h]; exact hR'.m, hR'.obj, hR'.fit, hR'.lim, hR'.K, fun q a hq => by obtain ⟨v, h1, h2⟩ := hR'.rel q a hq; exact ⟨v, h1, h2.mono hle⟩⟩⟩
  · intro j
    obtain ⟨N, hN⟩ := hI.fresh j
    refine ⟨max N (γ + 1), fun h hh => ?_⟩
    simp only [GS.rekey]
    rw [if_neg (by rintro ⟨_, rfl⟩; omega)]
    exact hN h (by omega)
  · intro j k b' x y hjk hj hk hx hy
    by_cases h1 : j = d
    · have h2 : k ≠ d := fun h => hjk (h1.trans h.symm)
      obtain ⟨hki, hkl, hke⟩ := key k h2 hk
      rw [h1, hd1] at hx
      simp only at hx
      rw [hmd2] at hx; cases hx
      rw [hke, hmd k h2] at hy
      exact hI.dist i k b _ _ (Ne.symm hki) hlive hkl hmi hy
    · obtain ⟨hji, hjl, hje⟩ := key j h1 hj
      rw [hje, hmd j h1] at hx
      by_cases h2 : k = d
      · rw [h2, hd1] at hy
        simp only at hy
        rw [hmd2] at hy; cases hy
        exact hI.dist i j b _ _ (Ne.symm hji) hlive hjl hmi hx
      · obtain ⟨hki, hkl, hke⟩ := key k h2 hk
        rw [hke, hmd k h2] at hy
        exact hI.dist j k b' x y hjk hjl hkl hx hy
  · rintro b' ⟨j, x, hj, hm⟩
    left
    by_cases h1 : j = d
    · rw [h1, hd1] at hm
      simp only at hm
      rw [hmd2] at hm; cases hm
      exact hf
    · obtain ⟨hji, hjl, hje⟩ := key j h1 hj
      rw [hje, hmd j h1] at hm
      exact ⟨j, x, hjl, hm⟩

/-- Nothing is appended. -/
theorem e_apm0 {t u e e' ty : TypeId} {i : TypeInfo} {n : Nat} {cs : List AV} {σ' : Sig} {q : Prop} (hI : Inv G σ w) (ht : P.underlying t = some (.slice e)) (hu : P.underlying u = some (.slice e')) (hi : P.info? e = some i)
    (ha : Rel G a va) (hb : Rel G b vb) (h : baseM i.size σ a = some (p, n, cs, σ')) (hp : p) (hy : rowsO i.size b = some (q, [])) (hq : q) :
    ∃ v', (Builtin.append_ #[t, u] ty #[va, vb]).run P w = .ok v' w ∧ Rel G a v' := by
  obtain ⟨vs, hvl, hvr, hvo, hlen, hfirst⟩ := src_vals (P := P) hI hb hy hq
  have hvs : vs = [] := List.eq_nil_of_length_eq_zero (by rw [hvl]; simp)
  subst hvs
  have hf := hfirst w rfl
  unfold baseM at h
  split at h
  · simp only [Rel] at ha; subst ha
    exact ⟨_, run_app_nil ht hu hi hlen hf, rfl⟩
  · rcases ha with ⟨rfl, h2⟩ | ⟨B, o, cap, rfl, hc, h3, h4⟩
    · exact ⟨_, run_app_nil ht hu hi hlen hf, .inl ⟨rfl, h2⟩⟩
    · exact ⟨_, run_app_none ht hu hi hlen hf hc, .inr ⟨B, o, cap, rfl, hc, h3, h4⟩⟩
  · obtain ⟨B, cap, rfl, hc, hm⟩ := ha
    exact ⟨_, run_app_none ht hu hi hlen hf hc, ⟨B, cap, rfl, hc, hm⟩⟩
  · cases h
/-- What such an append does, where something is appended. -/
theorem e_apm {t u e e' ty : TypeId} {i : TypeInfo} {zv : Value} {d γ n : Nat} {cs : List AV} {ys : List (List AV)} {σ' : Sig} {q : Prop} (hI : Inv G σ w) (hγ : G.m d γ = none) (ht : P.underlying t = some (.slice e)) (hu : P.underlying u = some (.slice e')) (hi : P.info? e = some i)
    (hz : i.zero = some zv) (hzs : zv.cells.size = i.size) (h0 : 0 < i.size) (hb0 : 0 < i.bytes) (ha : Rel G a va) (hb : Rel G b vb)
    (h : baseM i.size σ a = some (p, n, cs, σ')) (hp : p) (hy : rowsO i.size b = some (q, ys)) (hq : q) (hy0 : 0 < ys.length) (hbytes : (n + ys.length) * i.bytes ≤ 140737488355328) :
    ∃ v' w' G', (Builtin.append_ #[t, u] ty #[va, vb]).run P w = .ok v' w' ∧ Rel G' (.msl d γ (n + ys.length) i.size) v' ∧ StepOK G σ w G' (newS σ' d γ (cs ++ ys.flatten)) w' := by
  obtain ⟨vs, hvl, hvr, hvo, hlen, hfirst⟩ := src_vals (P := P) hI hb hy hq
  have hvr' := hvr.mono G.pure_le
  have hyl : ys.flatten.length = ys.length * i.size := by rw [← hvr.length, hvl]
  -- the new row
  have grow : ∀ (base : Option Addr) (sCap : Nat) (os : List Value), va = .slice base n sCap → os.length = n * i.size → RelL G cs os →
      (Builtin.firstCells i.size n (.slice base n sCap)).run P w.drew = .ok os.toArray w.drew → sCap < n + ys.length → StepOK G σ w G σ' w →
      ∃ v' w' G', (Builtin.append_ #[t, u] ty #[va, vb]).run P w = .ok v' w' ∧ Rel G' (.msl d γ (n + ys.length) i.size) v' ∧ StepOK G σ w G' (newS σ' d γ (cs ++ ys.flatten)) w' := by
    intro base sCap os hva hol hor hold hno hst
    have hrun := run_app_grow (ty := ty) ht hu hi hz hlen (hfirst w.drew rfl) hold hno hbytes hb0
    generalize hcap : grownCap w (n + ys.length) sCap e = cap at hrun
    have hge : n + ys.length ≤ cap := by rw [← hcap]; exact grownCap_ge _ _ _ _
    generalize hvals : os.toArray ++ vs.toArray ++ Builtin.zeroCells zv.cells (cap - (n + ys.length)) = vals at hrun
    have hvsz : vals.size = cap * i.size := by
      rw [← hvals]
      simp only [Array.size_append, List.size_toArray, size_zeroCells, hzs, hol, hvl, ← Nat.add_mul]
      congr 1; omega
    have hsd : StepOK G σ w G σ' w.drew := hst.trans (StepOK.drew hst.inv rfl rfl rfl rfl)
    have hget : ∀ q', q' < (n + ys.length) * i.size → vals[q']? = (os ++ vs)[q']? := by
      intro q' hq'
      rw [← hvals, Array.getElem?_append_left (by simp [hol, hvl, ← Nat.add_mul]; exact hq')]
      simp
    have hrel : RelL G (cs ++ ys.flatten) (os ++ vs) := by
      refine RelL.of_get (by simp [hor.length, hvr.length]) fun j y hj => ?_
      rw [List.getElem?_append] at hj ⊢
      rw [hor.length]
      split at hj
      · rw [if_pos (by assumption)]; exact hor.get _ _ hj
      · rw [if_neg (by assumption)]; exact hvr'.get _ _ hj
    have hcl : (cs ++ ys.flatten).length = (n + ys.length) * i.size := by
      rw [← hrel.length, List.length_append, hol, hvl, Nat.add_mul]
    have hal := alloc_ok hsd.inv vals e 0 d γ hγ (cs ++ ys.flatten) (by rw [hvsz, hcl, Nat.zero_add]; exact Nat.mul_le_mul_right _ hge) (fun o v ho => by omega) fun j x hj => by
      have hjl := (List.getElem?_eq_some_iff.1 hj).1
      rw [Nat.zero_add, hget j (by omega)]
      exact hrel.get _ _ hj
    refine ⟨_, _, _, by rw [hva]; exact hrun, ⟨w.heap.size, cap, rfl, hge, ?_⟩, hsd.trans hal⟩
    rw [show w.heap.size = w.drew.heap.size from rfl, grow_m, hvsz]
  have empty : (va = .slice none 0 0 ∨ ∃ x, va = .slice (some x) 0 0) → n = 0 → cs = [] → σ' = σ →
      ∃ v' w' G', (Builtin.append_ #[t, u] ty #[va, vb]).run P w = .ok v' w' ∧ Rel G' (.msl d γ (n + ys.length) i.size) v' ∧ StepOK G σ w G' (newS σ' d γ (cs ++ ys.flatten)) w' := by
    rintro hv rfl rfl rfl
    rcases hv with hv | ⟨x, hv⟩
    · exact grow none 0 [] hv (by simp) rfl rfl (by omega) (.refl hI)
    · refine grow (some x) 0 [] hv (by simp) rfl ?_ (by omega) (.refl hI)
      obtain ⟨B, o, sp⟩ := x
      exact run_firstCells_some (P := P) w.drew _ _ _ _ _ [] (by simp) fun j v hj => by simp at hj
  unfold baseM at h
  split at h
  · injection h with h; injection h with h1 h2; injection h2 with h2 h3; injection h3 with h3 h4
    subst h2; subst h3; subst h4
    exact empty (.inl ha) rfl rfl rfl
  · injection h with h; injection h with h1 h2; injection h2 with h2 h3; injection h3 with h3 h4
    subst h2; subst h3; subst h4
    rcases ha with ⟨hv, _⟩ | ⟨B, o, cap, hv, hc, _, hfull⟩
    · exact empty (.inl hv) rfl rfl rfl
    · have hf : cap = 0 := hfull
      subst hf
      exact empty (.inr ⟨_, hv⟩) rfl rfl rfl
  · rename_i j g n' sz'
    split at h
    · rename_i g' c hσ
      injection h with h; injection h with h1 h2; injection h2 with h2 h3; injection h3 with h3 h4
      subst h1; subst h2; subst h3; subst h4
      obtain ⟨rfl, rfl, hcl⟩ := hp
      obtain ⟨B, cap, hv, hc, hm⟩ := ha
      rcases hI.res j c (by rw [hσ]) with ⟨_, hn⟩ | ⟨b', e0, lim', vals, T, hR⟩
      · rw [hσ, hm] at hn; cases hn
      rw [hσ] at hR
      have := hR.m; rw [hm] at this; cases this
      have hkill : StepOK G σ w G (upd σ j (g, .dead)) w := StepOK.kill hI j g
      by_cases hroom : n' + ys.length ≤ cap
      · have hmul : (n' + ys.length) * i.size ≤ cap * i.size := Nat.mul_le_mul_right _ hroom
        rw [Nat.add_mul] at hmul
        have hfit : 0 + n' * i.size + vs.length ≤ vals.size := by have := hR.lim; omega
        have hrun := run_app_room (ty := ty) ht hu hi hlen (hfirst w rfl) hvl hvo hR.obj hroom hfit
        have hrel2 : ∀ q' x, (c ++ ys.flatten)[q']? = some x → ∃ v, (setL vals.toList (0 + n' * i.size) vs).toArray[0 + q']? = some v ∧ Rel G x v := by
          intro q' x hq'
          rw [List.getElem?_toArray, setL_get _ _ _ _ (by simpa using hfit)]
          rw [List.getElem?_append] at hq'
          split at hq'
          · rw [if_neg (by omega)]
            obtain ⟨v, h1, h2⟩ := hR.rel q' x hq'
            exact ⟨v, by simpa using h1, h2⟩
          · have hq2 := (List.getElem?_eq_some_iff.1 hq').1
            rw [if_pos (by omega)]
            have := hvr'.get _ _ hq'
            rwa [show 0 + q' - (0 + n' * i.size) = q' - c.length by omega]
        have hlen2 : 0 + (c ++ ys.flatten).length ≤ cap * i.size := by rw [List.length_append, hcl, hyl]; omega
        have hw := write_ok hI hσ hR (c' := c ++ ys.flatten) (vals' := (setL vals.toList (0 + n' * i.size) vs).toArray) (by simp [length_setL]) (fun o ho => by omega) hlen2 hrel2
        have hR2 : ResOK G (w.setRow B (setL vals.toList (0 + n' * i.size) vs).toArray) j g (c ++ ys.flatten) B 0 (cap * i.size) (setL vals.toList (0 + n' * i.size) vs).toArray T :=
          ⟨hR.m, setRow_heap _ _ _ _ _ _ hR.obj, hlen2, by simp [length_setL]; exact hR.lim, hR.K, hrel2⟩
        have hrk := rekey_ok hw.inv (i := j) (g := g) (c := c ++ ys.flatten) (by rw [upd_eq, if_pos rfl]) hR2 d γ hγ
        rw [upd_upd] at hrk
        exact ⟨_, _, _, by rw [hv]; exact hrun, ⟨B, cap, rfl, hroom, by simp [GS.rekey]⟩, hw.trans hrk⟩
      · have hos : ∃ os : List Value, os.length = n' * i.size ∧ RelL G c os ∧ ∀ (k : Nat) (v : Value), os[k]? = some v → w.cell? ⟨B, 0 + k, none⟩ = some v := by
          obtain ⟨os, hl, hc'⟩ := CellsAt.list (G := G) (w := w) (b := B) (o := 0) (l := c) fun k x hk => by
            obtain ⟨v, h1, h2⟩ := hR.rel k x hk
            refine ⟨v, ?_, h2⟩
            simp only [World.cell?, hR.obj]; simpa using h1
          exact ⟨os, by rw [hl.length, hcl], hl, hc'⟩
        obtain ⟨os, ho1, ho2, ho3⟩ := hos
        refine grow _ cap os hv ho1 ho2 ?_ (by omega) hkill
        refine run_firstCells_some (P := P) w.drew _ _ _ _ _ os ho1 fun k v hk => ?_
        rw [Addr.add_lit]
        exact ho3 k v hk
    · cases h
  · cases h
end
end Go.Abs

namespace Go.Abs
section
variable {P : Program} {G : GS} {w : World} {σ : Sig} {a b c v : AV} {p : Prop} {va vb vc : Value}

theorem slElem_some {t e : TypeId} (h : slElem P t = some e) : P.underlying t = some (.slice e) := by
  unfold slElem at h
  split at h
  · cases h; assumption
  · cases h
theorem szOf_info {t : TypeId} {n : Nat} (h : szOf P t = some n) : ∃ i, P.info? t = some i ∧ i.size = n := by
  unfold szOf at h; rw [Option.map_eq_some_iff] at h; exact h
theorem info_sz {t : TypeId} {i : TypeInfo} (h : P.info? t = some i) : szOf P t = some i.size := by simp [szOf, h]

/-- What an operation without a call does. -/
def OpOK (P : Program) (G : GS) (σ : Sig) (w : World) (r : Result Next) (v : AV) (σ' : Sig) : Prop :=
  ∃ G' w', StepOK G σ w G' σ' w' ∧ ((∃ v', r = .ok (.value v') w' ∧ Rel G' v v') ∨ (r = .ok .skip w' ∧ v = .junk))

theorem OpOK.val {x : Sem Value} (hI : Inv G σ w) (h : ∃ v', x.run P w = .ok v' w ∧ Rel G v v') : OpOK P G σ w (Sem.run P (do pure (.value (← x)) : Sem Next) w) v σ := by
  obtain ⟨v', h1, h2⟩ := h
  exact ⟨G, w, .refl hI, .inl ⟨v', by rw [Sem.run_bind, h1]; rfl, h2⟩⟩
theorem OpOK.eff {x : Sem Value} {σ' : Sig} (h : ∃ v' w' G', x.run P w = .ok v' w' ∧ Rel G' v v' ∧ StepOK G σ w G' σ' w') : OpOK P G σ w (Sem.run P (do pure (.value (← x)) : Sem Next) w) v σ' := by
  obtain ⟨v', w', G', h1, h2, h3⟩ := h
  exact ⟨G', w', h3, .inl ⟨v', by rw [Sem.run_bind, h1]; rfl, h2⟩⟩

theorem e_sb {s d u : TypeId} (hI : Inv G σ w) (hs : P.underlying s = some .string) (hd : P.underlying d = some (.slice u)) (hu : P.underlying u = some (.int .u8)) (ha : Rel G a va) (h : sbO a = some (p, v)) (hp : p) :
    ∃ v' w' G', (convert s d va).run P w = .ok v' w' ∧ Rel G' v v' ∧ StepOK G σ w G' σ w' := by
  unfold sbO at h
  split at h
  · rename_i s'
    obtain ⟨rfl, rfl⟩ := ov_inj h
    simp only [Rel] at ha; subst ha
    -- the capacity, the row, its mark
    generalize hcap : (Question.appendCap s'.size 0 u).cut (w.tape w.drawn (.appendCap s'.size 0 u)) = cap
    have hge : s'.size ≤ cap := by rw [← hcap]; simp [Question.cut]
    let vals : Array Value := s'.data.map (fun b => Value.int .u8 b.toNat) ++ Array.replicate (cap - s'.size) (.int .u8 0)
    have hsz : vals.size = cap := by show (_ ++ _ : Array Value).size = _; simp; have : s'.data.size = s'.size := rfl; omega
    have hget : ∀ o, o < s'.size → vals[o]? = some (.int .u8 (s'.data.toList.getD o 0).toNat) := by
      intro o ho
      have ho' : o < s'.data.size := ho
      show (_ ++ _ : Array Value)[o]? = _
      rw [Array.getElem?_append_left (by simpa using ho')]
      simp [List.getD_eq_getElem?_getD, Array.getElem?_eq_getElem ho']
    have hst := StepOK.drew (w' := w.drew) hI rfl rfl rfl rfl
    have hnew : ∀ o, G.K w.heap.size o = none := fun o => by
      cases hv : G.K w.heap.size o with
      | none => rfl
      | some v => exact absurd (hI.kok.lt hv) (by omega)
    -- the ghost state: the bytes are persistent
    let G' : GS := ⟨fun b o => if b = w.heap.size then (if o < s'.size then vals[o]? else none) else G.K b o, G.m⟩
    have hle : G.le G' := ⟨fun b o v hv => by
      have := hI.kok.lt hv
      show (if b = w.heap.size then _ else _) = _
      rw [if_neg (by omega)]; exact hv, fun _ _ _ h => h⟩
    let w' : World := (w.drew.alloc (.cells vals u)).freeze ⟨w.heap.size, vals.size, none⟩ 1
    have hheap : w'.heap = w.heap.push (.cells vals u (vals.size, vals.size + 1)) := by
      show ((w.drew.alloc (.cells vals u)).freeze _ 1).heap = _
      unfold World.freeze
      rw [if_neg (by omega)]
      apply Array.ext_getElem?
      intro i
      simp only [Array.getElem?_modify]
      by_cases hi : w.heap.size = i
      · subst hi
        rw [if_pos rfl]
        show Option.map _ ((w.heap.push (.cells vals u))[w.heap.size]?) = _
        simp
      · rw [if_neg hi]
        show (w.heap.push (.cells vals u))[i]? = _
        rw [Array.getElem?_push, Array.getElem?_push, if_neg (fun h => hi h.symm), if_neg (fun h => hi h.symm)]
    have hold : ∀ b, b < w.heap.size → w'.heap[b]? = w.heap[b]? := fun b hb => by
      rw [hheap, Array.getElem?_push, if_neg (by omega)]
    have hstep : StepOK G σ w G' σ w' := by
      refine ⟨hle, ⟨⟨?_, ?_⟩, ?_, hI.fresh, hI.dist⟩, ⟨?_, ?_, ?_, ?_, fun b hb _ => hold b hb, fun b o v => hle.K b o v, fun b hb _ => ?_⟩, fun b hb => .inl hb⟩
      · intro b o v hv
        have hv' : (if b = w.heap.size then (if o < s'.size then vals[o]? else none) else G.K b o) = some v := hv
        split at hv'
        · rename_i e; subst e
          split at hv'
          · simp only [World.cell?, hheap]; simpa using hv'
          · cases hv'
        · have := hI.kok.cell _ _ _ hv'
          simp only [World.cell?] at this ⊢
          rw [hold _ (hI.kok.lt hv')]; exact this
      · intro b o v hv
        have hv' : (if b = w.heap.size then (if o < s'.size then vals[o]? else none) else G.K b o) = some v := hv
        split at hv'
        · split at hv'
          · rename_i ho; rw [hget o ho] at hv'; cases hv'; rfl
          · cases hv'
        · exact hI.kok.one _ _ _ hv'
      · intro i c hi
        rcases hI.res i c hi with h2 | ⟨b, e', lim, vs, T', hR⟩
        · exact .inl h2
        · have hb : b < w.heap.size := (Array.getElem?_eq_some_iff.1 hR.obj).1
          refine .inr ⟨b, e', lim, vs, T', ⟨hR.m, by rw [hold _ hb]; exact hR.obj, hR.fit, hR.lim, fun o ho => ?_, fun j a hj => ?_⟩⟩
          · show (if b = w.heap.size then _ else _) = _
            rw [if_neg (by omega)]; exact hR.K o ho
          · obtain ⟨x, hx, hr⟩ := hR.rel j a hj
            exact ⟨x, hx, hr.mono hle⟩
      · show ((w.drew.alloc (.cells vals u)).freeze _ 1).os = _
        unfold World.freeze; rw [if_neg (by omega)]; rfl
      · show ((w.drew.alloc (.cells vals u)).freeze _ 1).tape = _
        unfold World.freeze; rw [if_neg (by omega)]; rfl
      · show ((w.drew.alloc (.cells vals u)).freeze _ 1).output = _
        unfold World.freeze; rw [if_neg (by omega)]; rfl
      · rw [hheap]; simp
      · funext o
        show (if b = w.heap.size then _ else _) = _
        rw [if_neg (by omega)]
    refine ⟨.slice (some ⟨w.heap.size, 0, none⟩) s'.size cap, w', G', ?_, .inr ⟨w.heap.size, 0, cap, ?_, ?_, ?_, trivial⟩, hstep⟩
    · unfold convert
      rw [Sem.run_bind, run_underlying hs, Result.andThen_ok, Sem.run_bind, run_underlying hd, Result.andThen_ok]
      simp only [Sem.run_bind, run_underlying hu, Result.andThen_ok, Conv.stringToBytes, run_choose, Question.forced, Bool.false_eq_true, if_false, hcap, newRow, run_newObj, Sem.run_pure]
      simp only [markStringish, Sem.run_bind, run_shape, Result.andThen_ok, Sem.run_pure]
      have hsh : World.shape? { heap := w.heap.push (.cells vals u), tape := w.tape, drawn := w.drawn + 1, os := w.os, output := w.output } w.heap.size = some (u, vals.size) := by
        simp [World.shape?]
      rw [show (Array.map (fun b : UInt8 => Value.int IntKind.u8 (b.toNat : Int)) s'.data ++ Array.replicate (cap - s'.size) (Value.int IntKind.u8 0)) = vals from rfl, hsh]
      simp only [run_freeze]; rfl
    · simp
    · simpa using hge
    · refine RelRows.of_get fun i hi => ?_
      have hi' : i < s'.size := by simpa using hi
      have e : (List.map (fun b : UInt8 => [AV.int .u8 (b.toNat : Int)]) s'.data.toList).getD i [] = [.int .u8 (s'.data.toList.getD i 0).toNat] := by
        have hi2 : i < s'.data.toList.length := by simpa using hi'
        rw [List.getD_eq_getElem?_getD, List.getElem?_map, List.getD_eq_getElem?_getD, List.getElem?_eq_getElem hi2]; rfl
      rw [e]
      refine ⟨⟨⟨_, ?_, rfl⟩, trivial⟩, rfl⟩
      show (if w.heap.size = w.heap.size then _ else _) = _
      rw [if_pos rfl, if_pos (by omega)]
      simpa using hget i hi'
  · cases h

theorem e_mks {t u : TypeId} {i : TypeInfo} {z : List AV} {d γ : Nat} {k k' : IntKind} {n c : Int} (hI : Inv G σ w) (hγ : G.m d γ = none) (ht : P.underlying t = some (.slice u)) (hi : P.info? u = some i) (hz : zeroOf P u = some z) (h0 : 0 < i.size)
    (hn : 0 ≤ n) (hc : c = n) (hb : n * i.bytes ≤ 140737488355328) (h63 : n ≤ 9223372036854775807) :
    ∃ v' w' G', (Instr.makeSlice t (.int k n) (.int k' c)).run P w = .ok v' w' ∧ Rel G' (.msl d γ n.toNat i.size) v' ∧ StepOK G σ w G' (newS σ d γ (List.replicate n.toNat z).flatten) w' := by
  subst hc
  obtain ⟨i', zv, hi', hzv, hzs, _, hzr, hzl, hzo⟩ := zero_rel (G := G) hz
  rw [hi] at hi'; cases hi'
  have hrow := zeroRow_rel (n := c.toNat) hzr hzl h0
  have hrl := hrow.length
  have hal := alloc_ok hI (zeroRow zv.cells (c.toNat * i.size)) u 0 d γ hγ (List.replicate c.toNat z).flatten (by simp at hrl ⊢; omega) (by omega) fun j a hj => by simpa using hrow.get j a hj
  have hw : IntKind.i64.wrap c = c := IntWalk.i64_in c ⟨by omega, h63⟩
  refine ⟨.slice (some ⟨w.heap.size, 0, none⟩) c.toNat c.toNat, w.alloc (.cells (zeroRow zv.cells (c.toNat * i.size)) u), _, ?_, ⟨w.heap.size, c.toNat, rfl, Nat.le_refl _, ?_⟩, hal⟩
  · have hb' : ¬ (281474976710656 < (i.bytes : Int) * c) := by rw [Int.mul_comm]; omega
    have hlt : ¬ (c < 0) := by omega
    unfold Instr.makeSlice
    rw [Sem.run_bind, run_underlying ht, Result.andThen_ok]
    simp only [asInt, asIntOf, Sem.run_bind, Sem.run_pure, Result.andThen_ok, run_typeInfo w hi, hw]
    rw [if_neg (by simp [hlt]; omega)]
    simp only [Sem.run_bind, run_askRoom, Result.andThen_ok, sizeOf, run_typeInfo w hi, Sem.run_pure]
    by_cases hz0 : c.toNat * i.size = 0
    · rw [if_pos hz0]
      simp only [Sem.run_bind, Sem.run_pure, Result.andThen_ok, newRow, run_newObj]
      have : (Array.range (c.toNat * i.size)).map (fun x => (#[] : Array Value)[x % (#[] : Array Value).size]!) = zeroRow zv.cells (c.toNat * i.size) := by
        rw [hz0]; simp [zeroRow]
      rw [this]; rfl
    · rw [if_neg hz0]
      simp only [Sem.run_bind, run_zero hi hzv, Sem.run_pure, Result.andThen_ok, newRow, run_newObj]; rfl
  · show _ = _
    rw [grow_m]; simp [zeroRow]

theorem eff_val {op : IOp} {e : Nat → AV} {σ' : Sig} {d γ : Nat} (hno : (∀ sz x v, op ≠ .st sz x v) ∧ (∀ z, op ≠ .new z) ∧ (∀ sz v, op ≠ .box sz v) ∧ (∀ a b c d e, op ≠ .mks a b c d e) ∧ (∀ a b c d e, op ≠ .app a b c d e) ∧ (∀ a b c d e, op ≠ .apm a b c d e) ∧ (∀ a b, op ≠ .nil a b) ∧ (∀ a, op ≠ .kil a) ∧ (∀ a b c d, op ≠ .chk a b c d))
    (h : effO d op e σ γ = some (p, v, σ')) : valO op e σ = some (p, v) ∧ σ' = σ := by
  obtain ⟨h1, h2, h3, h5, h6, h10, h7, h8, h9⟩ := hno
  have key : (match valO op e σ with | some (p, v) => some (p, v, σ) | none => none) = some (p, v, σ') := by
    cases op <;> first | exact h | exact absurd rfl (h1 _ _ _) | exact absurd rfl (h2 _) | exact absurd rfl (h3 _ _) | exact absurd rfl (h5 _ _ _ _ _) | exact absurd rfl (h6 _ _ _ _ _) | exact absurd rfl (h10 _ _ _ _ _) | exact absurd rfl (h7 _ _) | exact absurd rfl (h8 _) | exact absurd rfl (h9 _ _ _ _)
  split at key
  · rename_i q u hq
    injection key with key; injection key with k1 k2; injection k2 with k2 k3
    subst k1; subst k2
    exact ⟨hq, k3.symm⟩
  · cases key

theorem eff3 {p q : Prop} {v u : AV} {s s' : Sig} (h : some (p, v, s) = some (q, u, s')) : p = q ∧ v = u ∧ s = s' := by
  injection h with h; injection h with h1 h2; injection h2 with h2 h3; exact ⟨h1, h2, h3⟩

theorem val_ok {op : IOp} {e : Nat → AV} {σ' : Sig} {d γ : Nat} {x : Sem Value} {r : Result Next} (hI : Inv G σ w) (hno : (∀ sz x v, op ≠ .st sz x v) ∧ (∀ z, op ≠ .new z) ∧ (∀ sz v, op ≠ .box sz v) ∧ (∀ a b c d e, op ≠ .mks a b c d e) ∧ (∀ a b c d e, op ≠ .app a b c d e) ∧ (∀ a b c d e, op ≠ .apm a b c d e) ∧ (∀ a b, op ≠ .nil a b) ∧ (∀ a, op ≠ .kil a) ∧ (∀ a b c d, op ≠ .chk a b c d))
    (h : effO d op e σ γ = some (p, v, σ')) (hr : r = Sem.run P (do pure (.value (← x)) : Sem Next) w) (hx : valO op e σ = some (p, v) → ∃ v', x.run P w = .ok v' w ∧ Rel G v v') : OpOK P G σ w r v σ' := by
  obtain ⟨h1, rfl⟩ := eff_val hno h
  rw [hr]
  exact OpOK.val hI (hx h1)

theorem run_b1 {b : Builtin} {f : Array TypeId → TypeId → Array Value → Sem Value} (hf : ∀ ts ty cs as, builtin b ts ty cs as = (do pure (.value (← f ts ty as)))) {dst : Option Nat} {x : Operand} {t ty : TypeId} {pos : String} {af : Array Edge} {gd : Option (Nat × Bool)} {ρ : Operand → Value} :
    (execOp ρ ⟨dst, .call ⟨.builtin b, #[x], #[t]⟩, ty, pos, af, gd⟩).run P w = Sem.run P (do pure (.value (← f #[t] ty #[ρ x])) : Sem Next) w := by
  have h : (#[x] : Array Operand).map ρ = #[ρ x] := by simp
  rw [← h, ← hf #[t] ty (#[x].map fun | .const _ => true | _ => false)]; rfl
theorem run_b2 {b : Builtin} {f : Array TypeId → TypeId → Array Value → Sem Value} (hf : ∀ ts ty cs as, builtin b ts ty cs as = (do pure (.value (← f ts ty as)))) {dst : Option Nat} {x y : Operand} {t u ty : TypeId} {pos : String} {af : Array Edge} {gd : Option (Nat × Bool)} {ρ : Operand → Value} :
    (execOp ρ ⟨dst, .call ⟨.builtin b, #[x, y], #[t, u]⟩, ty, pos, af, gd⟩).run P w = Sem.run P (do pure (.value (← f #[t, u] ty #[ρ x, ρ y])) : Sem Next) w := by
  have h : (#[x, y] : Array Operand).map ρ = #[ρ x, ρ y] := by simp
  rw [← h, ← hf #[t, u] ty (#[x, y].map fun | .const _ => true | _ => false)]; rfl

theorem cOp_sound {site d γ : Nat} {m : Bool} {o : Oper} {op : IOp} {e : Nat → AV} {ρ : Operand → Value} {σ' : Sig} (hc : cOp P site m o.op = some op) (hρ : ORel G e ρ) (hI : Inv G σ w) (hγ : G.m d γ = none) (hγ' : G.m site γ = none)
    (h : effO d op e σ γ = some (p, v, σ')) (hp : p) : OpOK P G σ w ((execOp ρ o).run P w) v σ' := by
  obtain ⟨dst, oop, ty, pos, af, gd⟩ := o
  simp only at hc
  cases oop <;> simp only [cOp] at hc <;> try (cases hc; done)
  case move x =>
    rw [Option.map_eq_some_iff] at hc; obtain ⟨y, hy, rfl⟩ := hc
    obtain ⟨h1, rfl⟩ := eff_val (by simp) h
    exact ⟨G, w, .refl hI, .inl ⟨_, rfl, by rw [liftV_force h1]; exact hρ _ _ hy⟩⟩
  case assign x =>
    rw [Option.map_eq_some_iff] at hc; obtain ⟨y, hy, rfl⟩ := hc
    obtain ⟨h1, rfl⟩ := eff_val (by simp) h
    exact ⟨G, w, .refl hI, .inl ⟨_, rfl, by rw [liftV_force h1]; exact hρ _ _ hy⟩⟩
  case pick c a b =>
    simp only [Option.bind_eq_bind, Option.bind_eq_some_iff] at hc
    obtain ⟨c', hc', a', ha', b', hb', hh⟩ := hc; cases hh
    obtain ⟨h1, rfl⟩ := eff_val (by simp) h
    obtain ⟨t, ht, hr⟩ := s_pick (hρ _ _ hc') (hρ _ _ ha') (hρ _ _ hb') h1
    refine ⟨G, w, .refl hI, .inl ⟨if t then ρ a else ρ b, ?_, hr⟩⟩
    simp only [execOp, ht, asBool, Sem.run_bind, Sem.run_pure, Result.andThen_ok]
  case alloc t =>
    rw [Option.map_eq_some_iff] at hc; obtain ⟨z, hz, rfl⟩ := hc
    obtain ⟨rfl, rfl, rfl⟩ := eff3 h
    exact OpOK.eff (e_new hI hγ hz)
  case box t x =>
    simp only [Option.bind_eq_bind, Option.bind_eq_some_iff] at hc
    obtain ⟨sz, hs, y, hy, hh⟩ := hc; cases hh
    simp only [effO] at h
    split at h
    · rename_i q c hcc
      obtain ⟨rfl, rfl, rfl⟩ := eff3 h
      exact OpOK.eff (e_box hI hγ (hρ _ _ hy) hcc hp)
    · cases h
  case build t parts =>
    simp only [Option.bind_eq_bind, Option.bind_eq_some_iff] at hc
    obtain ⟨z, hz, hc⟩ := hc
    split at hc
    · rename_i fields ht
      simp only [Option.bind_eq_some_iff] at hc
      obtain ⟨ps, hps, hc⟩ := hc
      split at hc
      · rename_i hall; cases hc
        refine val_ok hI (by simp) h rfl fun h1 => ?_
        simp only [valO] at h1
        split at h1
        · rename_i q l hl
          obtain ⟨rfl, rfl⟩ := ov_inj h1
          exact s_bld hρ hz (.inl ⟨fields, ht, hall, hps⟩) hl hp
        · cases h1
      · cases hc
    · rename_i n u ht
      simp only [Option.bind_eq_some_iff] at hc
      obtain ⟨sz, hs, ps, hps, hc⟩ := hc; cases hc
      refine val_ok hI (by simp) h rfl fun h1 => ?_
      simp only [valO] at h1
      split at h1
      · rename_i q l hl
        obtain ⟨rfl, rfl⟩ := ov_inj h1
        exact s_bld hρ hz (.inr ⟨n, u, sz, ht, hs, hps⟩) hl hp
      · cases h1
    · cases hc
  case buildSlice t len parts =>
    simp only [Option.bind_eq_bind, Option.bind_eq_some_iff] at hc
    obtain ⟨u, hu, i, hi, z, hz, ps, hps, hc⟩ := hc
    split at hc
    · rename_i hcond; cases hc
      obtain ⟨h, rfl⟩ := eff_val (by simp) h
      simp only [valO] at h
      split at h
      · rename_i q es hes
        obtain ⟨rfl, rfl⟩ := ov_inj h
        exact OpOK.eff (e_bsl hρ hI (slElem_some hu) hi hz hps hcond.1 hcond.2 hes hp)
      · cases h
    · cases hc
  case load t x =>
    simp only [Option.bind_eq_bind, Option.bind_eq_some_iff] at hc
    obtain ⟨sz, hs, g, hg, y, hy, hh⟩ := hc; cases hh
    exact val_ok hI (by simp) h rfl fun h1 => s_ld hI hs hg (hρ _ _ hy) h1 hp
  case store t x y =>
    simp only [Option.bind_eq_bind, Option.bind_eq_some_iff] at hc
    obtain ⟨sz, hs, x', hx, y', hy, hh⟩ := hc; cases hh
    simp only [effO] at h
    obtain ⟨w', hr, rfl, hst⟩ := e_st (P := P) hI hs (hρ _ _ hx) (hρ _ _ hy) h hp
    refine ⟨G, w', hst, .inr ⟨?_, rfl⟩⟩
    simp only [execOp, Sem.run_bind, hr, Result.andThen_ok, Sem.run_pure]
  case nilCheck x =>
    rw [Option.map_eq_some_iff] at hc; obtain ⟨y, hy, rfl⟩ := hc
    obtain ⟨h1, rfl⟩ := eff_val (by simp) h
    obtain ⟨v', hr, hv⟩ := s_nck (P := P) (w := w) (dst := dst) (ty := ty) (pos := pos) (af := af) (gd := gd) (hρ _ _ hy) h1
    exact ⟨G, w, .refl hI, .inl ⟨v', hr, hv⟩⟩
  case binOp bop t x y yt =>
    simp only [Option.bind_eq_bind, Option.bind_eq_some_iff] at hc
    obtain ⟨x', hx, y', hy, hc⟩ := hc
    have plain : op = .bin bop x' y' → OpOK P G σ w ((execOp ρ ⟨dst, .binOp bop t x y yt, ty, pos, af, gd⟩).run P w) v σ' := by
      rintro rfl
      exact val_ok hI (by simp) h rfl fun h1 => s_bin (hρ _ _ hx) (hρ _ _ hy) h1 hp
    have eqs : ∀ k n, eqKind P t = some k → bop = (if n then .neq else .eql) → op = .eqn k n x' y' → OpOK P G σ w ((execOp ρ ⟨dst, .binOp bop t x y yt, ty, pos, af, gd⟩).run P w) v σ' := by
      rintro k n hk rfl rfl
      exact val_ok hI (by simp) h rfl fun h1 => s_eqn hk (hρ _ _ hx) (hρ _ _ hy) h1 hp
    split at hc
    · split at hc
      · cases hc; exact plain rfl
      · rw [Option.map_eq_some_iff] at hc; obtain ⟨k, hk, rfl⟩ := hc
        exact eqs k false hk rfl rfl
    · split at hc
      · cases hc; exact plain rfl
      · rw [Option.map_eq_some_iff] at hc; obtain ⟨k, hk, rfl⟩ := hc
        exact eqs k true hk rfl rfl
    · cases hc; exact plain rfl
  case unOp uop t x =>
    cases uop <;> simp only at hc <;> try (cases hc; done)
    · rw [Option.map_eq_some_iff] at hc; obtain ⟨y, hy, rfl⟩ := hc
      refine val_ok hI (by simp) h rfl fun h1 => ?_
      have hr := hρ _ _ hy
      simp only [valO] at h1
      unfold negO at h1
      split at h1
      · rename_i k n hk
        rw [hk] at hr; simp only [Rel] at hr
        obtain ⟨_, rfl⟩ := fitV_rel h1 hp
        rw [hr]; exact ⟨_, by simp [Op.unary, Op.intArith], rfl⟩
      · cases h1
    · rw [Option.map_eq_some_iff] at hc; obtain ⟨y, hy, rfl⟩ := hc
      refine val_ok hI (by simp) h rfl fun h1 => ?_
      have hr := hρ _ _ hy
      simp only [valO] at h1
      unfold notO at h1
      split at h1
      · rename_i b hb
        rw [hb] at hr; simp only [Rel] at hr
        obtain ⟨_, rfl⟩ := ov_inj h1
        rw [hr]; exact ⟨_, by simp [Op.unary], rfl⟩
      · cases h1
  case convert s d x =>
    split at hc
    · rename_i k' k hs hd
      rw [Option.map_eq_some_iff] at hc; obtain ⟨y, hy, rfl⟩ := hc
      exact val_ok hI (by simp) h rfl fun h1 => s_cvI hs hd (hρ _ _ hy) h1 hp
    · rename_i u hs hd
      split at hc
      · rename_i hu
        rw [Option.map_eq_some_iff] at hc; obtain ⟨y, hy, rfl⟩ := hc
        obtain ⟨h, rfl⟩ := eff_val (by simp) h
        exact OpOK.eff (e_sb hI hs hd hu (hρ _ _ hy) h hp)
      · cases hc
    · cases hc
  case makeFunc fn first caps =>
    simp only [Option.bind_eq_bind, Option.bind_eq_some_iff] at hc
    obtain ⟨f, hf, c, hcc, hh⟩ := hc; cases hh
    refine val_ok hI (by simp) h rfl fun h1 => ?_
    simp only [valO] at h1
    split at h1
    · rename_i l1 l2 e1 e2
      obtain ⟨_, rfl⟩ := ov_inj h1
      refine ⟨.func fn (first.map ρ) (caps.map ρ), rfl, ⟨_, _, rfl, ?_, ?_⟩⟩
      · simpa using cOpds_rel hρ hf e1
      · simpa using cOpds_rel hρ hcc e2
    · cases h1
  case makeSlice t len cap =>
    simp only [Option.bind_eq_bind, Option.bind_eq_some_iff] at hc
    obtain ⟨u, hu, i, hi, z, hz, l, hl, c, hcc, hc⟩ := hc
    split at hc
    · rename_i h0; cases hc
      simp only [effO] at h
      split at h
      · rename_i k n k' m hn hm
        obtain ⟨rfl, rfl, rfl⟩ := eff3 h
        have r1 := hρ _ _ hl
        have r2 := hρ _ _ hcc
        rw [hn] at r1; rw [hm] at r2
        simp only [Rel] at r1 r2
        have := e_mks (d := d) (k := k) (k' := k') hI hγ (slElem_some hu) hi hz h0 hp.1 hp.2.1 hp.2.2.1 hp.2.2.2
        refine OpOK.eff (x := Instr.makeSlice t (ρ len) (ρ cap)) ?_
        rw [r1, r2]; exact this
      · cases h
    · cases hc
  case slice t x lo hi mx =>
    simp only [Option.bind_eq_bind, Option.bind_eq_some_iff] at hc
    obtain ⟨y, hy, lo', hlo, hi', hhi, mx', hmx, hc⟩ := hc
    split at hc
    · rename_i u ht
      simp only [Option.bind_eq_some_iff] at hc
      obtain ⟨sz, hs, hc⟩ := hc
      split at hc
      · rename_i hmh; cases hc
        exact val_ok hI (by simp) h rfl fun h1 => s_slS hρ ht hs hlo hhi hmx hmh (hρ _ _ hy) h1 hp
      · cases hc
    · rename_i ht
      split at hc
      · rename_i hn; cases hc
        have hmn : mx = none := by cases mx <;> simp [cOptOpd] at hmx <;> first | rfl | (obtain ⟨_, _, rfl⟩ := hmx; simp at hn)
        subst hmn
        exact val_ok hI (by simp) h rfl fun h1 => s_slT hρ ht hlo hhi (hρ _ _ hy) h1 hp
      · cases hc
    · cases hc
  case fieldAddr t x n =>
    split at hc
    · rename_i fields ht
      simp only [Option.bind_eq_bind, Option.bind_eq_some_iff] at hc
      obtain ⟨f, hf, sz, hs, y, hy, hc⟩ := hc
      split at hc
      · rename_i hz; cases hc
        exact val_ok hI (by simp) h rfl fun h1 => s_flA ht hf hs hz (hρ _ _ hy) h1 hp
      · cases hc
    · cases hc
  case field t x n =>
    split at hc
    · rename_i fields ht
      simp only [Option.bind_eq_bind, Option.bind_eq_some_iff] at hc
      obtain ⟨f, hf, sz, hs, g, hg, y, hy, hc⟩ := hc; cases hc
      exact val_ok hI (by simp) h rfl fun h1 => s_fl ht hf hs hg (hρ _ _ hy) h1 hp
    · cases hc
  case indexAddr t x i =>
    simp only [Option.bind_eq_bind, Option.bind_eq_some_iff] at hc
    obtain ⟨x', hx, i', hi, hc⟩ := hc
    split at hc
    · rename_i u ht
      simp only [Option.bind_eq_some_iff] at hc
      obtain ⟨sz, hs, hc⟩ := hc; cases hc
      exact val_ok hI (by simp) h rfl fun h1 => s_ixA ht hs (hρ _ _ hx) (hρ _ _ hi) h1 hp
    · rename_i n u ht
      simp only [Option.bind_eq_some_iff] at hc
      obtain ⟨sz, hs, hc⟩ := hc; cases hc
      exact val_ok hI (by simp) h rfl fun h1 => s_ixAr ht hs (hρ _ _ hx) (hρ _ _ hi) h1 hp
    · cases hc
  case index t x i =>
    simp only [Option.bind_eq_bind, Option.bind_eq_some_iff] at hc
    obtain ⟨x', hx, i', hi, hc⟩ := hc
    split at hc
    · rename_i n u ht
      simp only [Option.bind_eq_some_iff] at hc
      obtain ⟨sz, hs, g, hg, hc⟩ := hc; cases hc
      refine val_ok hI (by simp) h rfl fun h1 => ?_
      simp only [valO] at h1
      split at h1
      · rename_i q q' u' hq
        obtain ⟨rfl, rfl⟩ := ov_inj h1
        exact s_ixV ht hs hg (hρ _ _ hx) (hρ _ _ hi) hq hp.1 hp.2
      · cases h1
    · rename_i ht; cases hc
      exact val_ok hI (by simp) h rfl fun h1 => s_ixS ht (hρ _ _ hx) (hρ _ _ hi) h1 hp
    · cases hc
  case extract x i =>
    rw [Option.map_eq_some_iff] at hc; obtain ⟨y, hy, rfl⟩ := hc
    exact val_ok hI (by simp) h rfl fun h1 => s_ext (hρ _ _ hy) h1
  case call c =>
    obtain ⟨callee, args, argTypes⟩ := c
    simp only at hc
    split at hc
    · rw [Option.map_eq_some_iff] at hc; obtain ⟨y, hy, rfl⟩ := hc
      simp [effO, valO] at h
    · simp only [Option.bind_eq_bind, Option.bind_eq_some_iff] at hc
      obtain ⟨y, hy, as, has, hc⟩ := hc; cases hc
      simp [effO, valO] at h
    · rename_i b
      unfold cBuiltin at hc
      split at hc
      · rename_i t x hts hxs
        obtain rfl : argTypes = #[t] := by apply Array.toList_inj.1; simpa using hts
        obtain rfl : args = #[x] := by apply Array.toList_inj.1; simpa using hxs
        split at hc
        · rename_i u ht
          rw [Option.map_eq_some_iff] at hc; obtain ⟨y, hy, rfl⟩ := hc
          exact val_ok (x := Builtin.len_ #[t] ty #[ρ x]) hI (by simp) h (run_b1 (fun _ _ _ _ => rfl)) fun h1 => s_len (str := false) ⟨_, ht⟩ (hρ _ _ hy) h1
        · rename_i ht
          rw [Option.map_eq_some_iff] at hc; obtain ⟨y, hy, rfl⟩ := hc
          exact val_ok (x := Builtin.len_ #[t] ty #[ρ x]) hI (by simp) h (run_b1 (fun _ _ _ _ => rfl)) fun h1 => s_len (str := true) ht (hρ _ _ hy) h1
        · rename_i n u ht
          cases hc
          refine val_ok (x := Builtin.len_ #[t] ty #[ρ x]) hI (by simp) h (run_b1 (fun _ _ _ _ => rfl)) fun h1 => ?_
          obtain ⟨_, rfl⟩ := ov_inj h1
          exact ⟨_, by simp [Builtin.len_, run_underlying ht, goInt], rfl⟩
        · cases hc
      · rename_i t u x y hts hxs
        obtain rfl : argTypes = #[t, u] := by apply Array.toList_inj.1; simpa using hts
        obtain rfl : args = #[x, y] := by apply Array.toList_inj.1; simpa using hxs
        simp only [Option.bind_eq_bind, Option.bind_eq_some_iff] at hc
        obtain ⟨e1, he1, e2, he2, i, hi, i', hi', z, hz, x', hx, y', hy, hc⟩ := hc
        split at hc
        · rename_i hcond
          obtain ⟨c1, c2, c3, c4⟩ := hcond
          cases m
          case true =>
            cases hc
            simp only [effO] at h
            split at h
            · rename_i q n c s' q' ys hb hr
              rw [run_b2 (b := .append) (P := P) (w := w) (f := Builtin.append_) (fun _ _ _ _ => rfl)]
              split at h
              · obtain ⟨rfl, rfl, rfl⟩ := eff3 h
                exact OpOK.val hI (e_apm0 hI (slElem_some he1) (slElem_some he2) hi (hρ _ _ hx) (hρ _ _ hy) hb hp.1 hr hp.2)
              · rename_i y0 yr
                obtain ⟨rfl, rfl, rfl⟩ := eff3 h
                exact OpOK.eff (e_apm hI hγ' (slElem_some he1) (slElem_some he2) hi hz c4 c2 c3 (hρ _ _ hx) (hρ _ _ hy) hb hp.1 hr hp.2.1 (by simp) hp.2.2)
            · cases h
          cases hc
          simp only [effO] at h
          split at h
          · rename_i q es s' q' ys hb hr
            obtain ⟨rfl, rfl, rfl⟩ := eff3 h
            rw [run_b2 (b := .append) (P := P) (w := w) (f := Builtin.append_) (fun _ _ _ _ => rfl)]
            exact OpOK.eff (e_app hI hγ' (slElem_some he1) (slElem_some he2) hi hz c4 c2 c3 (hρ _ _ hx) (hρ _ _ hy) hb hp.1 hr hp.2.1 hp.2.2)
          · cases h
        · cases hc
      · rename_i t u x y hts hxs
        obtain rfl : argTypes = #[t, u] := by apply Array.toList_inj.1; simpa using hts
        obtain rfl : args = #[x, y] := by apply Array.toList_inj.1; simpa using hxs
        simp only [Option.bind_eq_bind, Option.bind_eq_some_iff] at hc
        obtain ⟨x', hx, y', hy, hc⟩ := hc; cases hc
        exact val_ok (x := Builtin.max_ #[t, u] ty #[ρ x, ρ y]) hI (by simp) h (run_b2 (fun _ _ _ _ => rfl)) fun h1 => s_mxi (m := true) (ts := #[t, u]) (ty := ty) (hρ _ _ hx) (hρ _ _ hy) h1
      · rename_i t u x y hts hxs
        obtain rfl : argTypes = #[t, u] := by apply Array.toList_inj.1; simpa using hts
        obtain rfl : args = #[x, y] := by apply Array.toList_inj.1; simpa using hxs
        simp only [Option.bind_eq_bind, Option.bind_eq_some_iff] at hc
        obtain ⟨x', hx, y', hy, hc⟩ := hc; cases hc
        exact val_ok (x := Builtin.min_ #[t, u] ty #[ρ x, ρ y]) hI (by simp) h (run_b2 (fun _ _ _ _ => rfl)) fun h1 => s_mxi (m := false) (ts := #[t, u]) (ty := ty) (hρ _ _ hx) (hρ _ _ hy) h1
      · cases hc
    · cases hc

theorem det_sound {H : Hint} {o : Oper} {op : IOp} {e : Nat → AV} {ρ : Operand → Value} {K : AV → Sig → Prop} (hc : cOp' P H o = some op) (hρ : ORel G e ρ) (hI : Inv G σ w)
    (h : detW (effO (o.dst.getD 0) op e σ) K) : ∃ v σ', K v σ' ∧ OpOK P G σ w ((execOp ρ o).run P w) v σ' := by
  have go : ∀ {γ p v σ'}, G.m (o.dst.getD 0) γ = none → G.m ((o.dst.bind (look H.site)).getD (o.dst.getD 0)) γ = none → effO (o.dst.getD 0) op e σ γ = some (p, v, σ') → p → OpOK P G σ w ((execOp ρ o).run P w) v σ' := by
    intro γ p v σ' hγ hγ' h hp
    unfold cOp' at hc
    split at hc
    · rename_i sz d hx hd
      cases hc
      obtain ⟨rfl, rfl, rfl⟩ := eff3 h
      split at hx
      · rename_i hn
        obtain ⟨dst, oop, ty, pos, af, gd⟩ := o
        simp only at hn
        unfold isNil at hn
        split at hn
        · simp only at hd; subst hd
          refine ⟨G, w, nil_ok hI _ _ hγ', .inl ⟨.slice none 0 0, ?_, .inl ⟨rfl, rfl⟩⟩⟩
          have : Rel G .nsl (ρ (.const (.slice none 0 0))) := hρ _ (.k .nsl) rfl
          simp only [Rel] at this
          simp only [execOp, this]; rfl
        · cases hn
      · cases hx
    · exact cOp_sound hc hρ hI hγ hγ' h hp
  obtain ⟨N, hN⟩ := hI.fresh (o.dst.getD 0)
  obtain ⟨M, hM⟩ := hI.fresh ((o.dst.bind (look H.site)).getD (o.dst.getD 0))
  have hk := h (N + M)
  split at hk
  · rename_i p v σ' he
    exact ⟨v, σ', hk.2, go (hN _ (by omega)) (hM _ (by omega)) he hk.1⟩
  · exact hk.elim
end
end Go.Abs


namespace Go.Abs
theorem cOp_callF {P : Program} {site : Nat} {m : Bool} {oop : Op} {f : Nat} {args : List IOpd} (h : cOp P site m oop = some (.callF f args)) :
    ∃ cargs ts, oop = .call ⟨.value (.func f), cargs, ts⟩ ∧ cOpds cargs.toList = some args := by
  cases oop <;> simp only [cOp] at h
  case call c =>
    obtain ⟨callee, cargs, ts⟩ := c
    simp only at h
    split at h
    · rw [Option.map_eq_some_iff] at h; obtain ⟨y, hy, h⟩ := h; cases h; exact ⟨_, _, rfl, hy⟩
    · simp [Option.bind_eq_some_iff] at h
    · unfold cBuiltin at h
      split at h
      · split at h <;> simp [Option.map_eq_some_iff] at h
      · cases m <;> simp [Option.bind_eq_some_iff] at h
      · simp [Option.bind_eq_some_iff] at h
      · simp [Option.bind_eq_some_iff] at h
      · cases h
    · cases h
  all_goals (exfalso; revert h; (repeat' split) <;> simp [Option.bind_eq_some_iff, Option.map_eq_some_iff])
  all_goals ((intros; (repeat' split) <;> simp_all [Option.bind_eq_some_iff, Option.map_eq_some_iff]))
theorem cOp_callV {P : Program} {site : Nat} {m : Bool} {oop : Op} {x : IOpd} {args : List IOpd} (h : cOp P site m oop = some (.callV x args)) :
    ∃ y cargs ts, oop = .call ⟨.value y, cargs, ts⟩ ∧ cOpd y = some x ∧ cOpds cargs.toList = some args := by
  cases oop <;> simp only [cOp] at h
  case call c =>
    obtain ⟨callee, cargs, ts⟩ := c
    simp only at h
    split at h
    · simp [Option.map_eq_some_iff] at h
    · simp only [Option.bind_eq_bind, Option.bind_eq_some_iff] at h
      obtain ⟨y, hy, as, has, h⟩ := h; cases h; exact ⟨_, _, _, rfl, hy, has⟩
    · unfold cBuiltin at h
      split at h
      · split at h <;> simp [Option.map_eq_some_iff] at h
      · cases m <;> simp [Option.bind_eq_some_iff] at h
      · simp [Option.bind_eq_some_iff] at h
      · simp [Option.bind_eq_some_iff] at h
      · cases h
    · cases h
  all_goals (exfalso; revert h; (repeat' split) <;> simp [Option.bind_eq_some_iff, Option.map_eq_some_iff])
  all_goals ((intros; (repeat' split) <;> simp_all [Option.bind_eq_some_iff, Option.map_eq_some_iff]))
theorem cOp_kil {P : Program} {site : Nat} {m : Bool} {oop : Op} {i : Nat} (h : cOp P site m oop = some (.kil i)) : False := by
  cases oop <;> simp only [cOp] at h
  case call c =>
    obtain ⟨callee, cargs, ts⟩ := c
    simp only at h
    split at h
    · simp [Option.map_eq_some_iff] at h
    · simp [Option.bind_eq_some_iff] at h
    · unfold cBuiltin at h
      split at h
      · split at h <;> simp [Option.map_eq_some_iff] at h
      · cases m <;> simp [Option.bind_eq_some_iff] at h
      · simp [Option.bind_eq_some_iff] at h
      · simp [Option.bind_eq_some_iff] at h
      · cases h
    · cases h
  all_goals (revert h; (repeat' split) <;> simp [Option.bind_eq_some_iff, Option.map_eq_some_iff])
  all_goals ((intros; (repeat' split) <;> simp_all [Option.bind_eq_some_iff, Option.map_eq_some_iff]))
end Go.Abs

/-! ### Soundness: steps, code, functions -/
namespace Go.Abs
structure Ctx (P : Program) where
  n : Nat
  r : Option Nat
  Y : Option (YC P)
  F : Nat → Prop
  T : Nat → Prop
  G0 : GS
  w0 : World

/-- The fence of a walk: all functions; in a round or not. -/
abbrev FW (r : Option Nat) : Fence := { Fence.wide with round := r }

/-- The marks of the loops over functions among the deferred calls. -/
def markD (r : Nat) : Deferred := { target := .collected r, args := #[] }

structure StC {P : Program} (c : Ctx P) (G : GS) (e : Nat → AV) (σ : Sig) (a : Act) (w : World) : Prop where
  env : ∀ t, Rel G (e t) (a.tmps.getD t undef)
  size : a.tmps.size = c.n
  le : c.G0.le G
  inv : Inv G σ w
  ext : Ext (fun b => c.F b ∨ c.T b) c.G0.K c.w0 G.K w
  own : ∀ b, Foot G σ b → c.F b ∨ c.w0.heap.size ≤ b

structure St {P : Program} (c : Ctx P) (G : GS) (e : Nat → AV) (σ : Sig) (a : Act) (w : World) : Prop extends StC c G e σ a w where
  rd : c.r.isSome = true → a.defers = []
  terr : ∃ T, YI c.Y T σ G.K w ∧ (∀ b, Foot G σ b → ¬ T b) ∧ (∀ b, T b → c.T b ∨ c.w0.heap.size ≤ b) ∧
    ∃ marks : List Nat, a.defers = marks.map markD ∧ marks.Nodup ∧ ∀ r ∈ marks, w.heap[r]? = some (.deferred (some [])) ∧ c.w0.heap.size ≤ r ∧ ¬ T r

variable {P : Program} {c : Ctx P}

theorem Foot.cells {G : GS} {σ : Sig} {w : World} (h : Inv G σ w) {b : Nat} (hf : Foot G σ b) : ∃ vals T m, w.heap[b]? = some (.cells vals T m) := by
  obtain ⟨i, x, ⟨c, hc⟩, hm⟩ := hf
  rcases h.res i c hc with ⟨_, hn⟩ | ⟨b', e, lim, vals, T, hR⟩
  · rw [hm] at hn; cases hn
  · have := hR.m; rw [hm] at this; cases this
    exact ⟨_, _, _, hR.obj⟩
theorem Kok.no {K : Nat → Nat → Option Value} {w : World} (h : Kok K w) {b : Nat} (hd : w.heap[b]? = some (.deferred (some []))) (o : Nat) : K b o = none := by
  cases hk : K b o with
  | none => rfl
  | some v => have := h.cell _ _ _ hk; simp [World.cell?, hd] at this

/-- A step that leaves the yield function alone. -/
theorem YI.step {Y : Option (YC P)} {T : Nat → Prop} {G G' : GS} {σ σ' : Sig} {w w' : World} (h : YI Y T σ G.K w) (hd : ∀ b, Foot G σ b → ¬ T b) (hs : StepOK G σ w G' σ' w') (hy : σ' YS = σ YS) : YI Y T σ' G'.K w' := by
  unfold YI at *
  cases Y with
  | none => exact ⟨h.1, by rw [hy]; exact h.2⟩
  | some y =>
    obtain ⟨s, h1, h2⟩ := h
    refine ⟨s, by rw [hy]; exact h1, y.stab _ _ _ _ _ _ h2 hs.inv.kok ⟨hs.ext.os, hs.ext.tape, hs.ext.output, hs.ext.size, fun b hb hn => hs.ext.block b hb fun hf => hd b hf (Classical.not_not.1 hn), hs.ext.le, fun b hb hn => hs.ext.Kb b hb fun hf => hd b hf (Classical.not_not.1 hn)⟩⟩
theorem YI.lt {Y : Option (YC P)} {T : Nat → Prop} {σ : Sig} {K : Nat → Nat → Option Value} {w : World} (h : YI Y T σ K w) {b : Nat} (hb : T b) : b < w.heap.size := by
  unfold YI at h
  cases Y with
  | none => exact absurd hb (h.1 b)
  | some y => obtain ⟨s, _, h2⟩ := h; exact y.lt _ _ _ _ h2 b hb

theorem St.step {G G' : GS} {e : Nat → AV} {σ σ' : Sig} {a : Act} {w w' : World} (h : St c G e σ a w) (hs : StepOK G σ w G' σ' w') (hy : σ' YS = σ YS) : St c G' e σ' a w' where
  env t := (h.env t).mono hs.le
  size := h.size
  le := h.le.trans hs.le
  inv := hs.inv
  ext := h.ext.trans hs.ext fun b hb hf => .inl ((h.own b hf).resolve_right (by have := h.ext.size; omega))
  own b hb := (hs.own b hb).elim (h.own b) fun hn => .inr (Nat.le_trans h.ext.size hn)
  rd := h.rd
  terr := by
    obtain ⟨T, h1, h2, h3, marks, h4, h5, h6⟩ := h.terr
    refine ⟨T, h1.step h2 hs hy, fun b hb hT => (hs.own b hb).elim (fun hf => h2 b hf hT) fun hn => ?_, h3, marks, h4, h5, fun r hr => ?_⟩
    · have := h1.lt hT; omega
    · obtain ⟨k1, k2, k3⟩ := h6 r hr
      refine ⟨?_, k2, k3⟩
      rw [hs.ext.block r (Array.getElem?_eq_some_iff.1 k1).1 fun hf => by
        obtain ⟨_, _, _, hc⟩ := Foot.cells h.inv hf
        rw [k1] at hc; cases hc]
      exact k1

theorem St.put {G : GS} {e : Nat → AV} {σ : Sig} {a : Act} {w : World} (h : St c G e σ a w) {d : Nat} (hd : d < c.n) {v : AV} {v' : Value} (hv : Rel G v v') : St c G (upd e d v) σ (a.put (some d) v') w where
  env t := by
    rw [upd_eq]
    have hs := h.size
    by_cases ht : t = d
    · subst ht
      rw [if_pos rfl]
      simp only [Act.put, Array.getD_eq_getD_getElem?, Array.getElem?_setIfInBounds_self]
      rw [if_pos (by omega)]; exact hv
    · rw [if_neg ht]
      simp only [Act.put, Array.getD_eq_getD_getElem?, Array.getElem?_setIfInBounds_ne (Ne.symm ht)]
      have := h.env t
      rwa [Array.getD_eq_getD_getElem?] at this
  size := by simp [Act.put]; exact h.size
  le := h.le
  inv := h.inv
  ext := h.ext
  own := h.own
  rd := h.rd
  terr := h.terr

theorem StC.call {G : GS} {e : Nat → AV} {σ : Sig} {a : Act} {w : World} {T X : Nat → Prop} (h : StC c G e σ a w) (h3 : ∀ b, T b → c.T b ∨ c.w0.heap.size ≤ b) (hX : ∀ b, X b → c.w0.heap.size ≤ b)
    {σ' : Sig} {G' : GS} {w' : World} (k1 : Inv G' σ' w') (k2 : G.le G') (k3 : Ext (fun b => Foot G σ b ∨ T b ∨ X b) G.K w G'.K w') (k4 : ∀ b, Foot G' σ' b → Foot G σ b ∨ w.heap.size ≤ b) : StC c G' e σ' a w' where
  env t := (h.env t).mono k2
  size := h.size
  le := h.le.trans k2
  inv := k1
  ext := h.ext.trans k3 fun b hb hf => by
    have := h.ext.size
    rcases hf with hf | hf | hf
    · exact .inl ((h.own b hf).resolve_right (by omega))
    · exact .inr ((h3 b hf).resolve_right (by omega))
    · have := hX b hf; omega
  own b hb := (k4 b hb).elim (h.own b) fun hn => .inr (Nat.le_trans h.ext.size hn)

/-- How a call changes what is known. -/
theorem St.call {G : GS} {e : Nat → AV} {σ : Sig} {a : Act} {w : World} {T : Nat → Prop} (h : St c G e σ a w) (h1 : YI c.Y T σ G.K w) (h3 : ∀ b, T b → c.T b ∨ c.w0.heap.size ≤ b)
    {marks : List Nat} (h4 : a.defers = marks.map markD) (h5 : marks.Nodup) (h6 : ∀ r ∈ marks, w.heap[r]? = some (.deferred (some [])) ∧ c.w0.heap.size ≤ r ∧ ¬ T r)
    {σ' : Sig} {G' : GS} {w' : World} {T' : Nat → Prop} (k1 : Inv G' σ' w') (k2 : G.le G') (k3 : Ext (fun b => Foot G σ b ∨ T b) G.K w G'.K w') (k4 : ∀ b, Foot G' σ' b → Foot G σ b ∨ w.heap.size ≤ b)
    (k5 : YI c.Y T' σ' G'.K w') (k6 : ∀ b, Foot G' σ' b → ¬ T' b) (k7 : ∀ b, T' b → T b ∨ w.heap.size ≤ b) : St c G' e σ' a w' where
  toStC := h.toStC.call (X := fun _ => False) h3 (fun _ h => h.elim) k1 k2 ⟨k3.os, k3.tape, k3.output, k3.size, fun b hb hn => k3.block b hb fun hf => hn (hf.imp id .inl), k3.le, fun b hb hn => k3.Kb b hb fun hf => hn (hf.imp id .inl)⟩ k4
  rd := h.rd
  terr := by
    refine ⟨T', k5, k6, fun b hb => (k7 b hb).elim (h3 b) fun hn => .inr (Nat.le_trans h.ext.size hn), marks, h4, h5, fun r hr => ?_⟩
    obtain ⟨q1, q2, q3⟩ := h6 r hr
    have hlt := (Array.getElem?_eq_some_iff.1 q1).1
    refine ⟨?_, q2, fun hT => (k7 r hT).elim q3 (by omega)⟩
    rw [k3.block r hlt]
    · exact q1
    · rintro (hf | hf)
      · obtain ⟨_, _, _, hc⟩ := Foot.cells h.inv hf
        rw [q1] at hc; cases hc
      · exact q3 hf

/-- A walk's post, as the model's wants it. -/
def KW (c : Ctx P) (K : (Nat → AV) → Sig → Prop) (a : Act) (w : World) : Prop := ∃ G e σ, K e σ ∧ St c G e σ a w

theorem okFn_run {f : Nat} {args : Array Value} {w : World} (h : okFn P f = true) : (callFunc f args).run P w = .ok (.enter f args) w := by
  unfold okFn at h
  split at h
  · rename_i fn hf
    simp only [Bool.and_eq_true, Bool.not_eq_true'] at h
    unfold callFunc
    simp only [Sem.run_bind, run_program, Result.andThen_ok, hf]
    rw [if_neg (by rw [h.2]; simp), if_neg (by cases hb : fn.body <;> simp_all)]
    rfl
  · cases h

/-- What a step may do at the place of the yield function. -/
def YSame (σ σ' : Sig) : Prop := σ' YS = σ YS ∨ ((∀ l s, (σ YS).2 ≠ .yld l s) ∧ ∀ l s, (σ' YS).2 ≠ .yld l s)
theorem YSame.refl (σ : Sig) : YSame σ σ := .inl rfl
theorem YSame.row {σ : Sig} {i : Nat} {r : Nat × Res} {g : Nat} {c : List AV} (h : σ i = (g, .row c)) (hr : ∀ l s, r.2 ≠ .yld l s) : YSame σ (upd σ i r) := by
  by_cases hi : i = YS
  · subst hi
    exact .inr ⟨fun l s => (by rw [h]; simp), fun l s => by rw [upd_eq, if_pos rfl]; exact hr l s⟩
  · exact .inl (by rw [upd_eq, if_neg (Ne.symm hi)])
theorem YSame.new {σ : Sig} {d g : Nat} {c : List AV} (h : d ≠ YS) : YSame σ (newS σ d g c) := .inl (by rw [newS, upd_eq, if_neg (Ne.symm h)])
theorem YSame.trans {σ σ' σ'' : Sig} (h : YSame σ σ') (k : YSame σ' σ'') : YSame σ σ'' := by
  rcases h with h | h <;> rcases k with k | k
  · exact .inl (k.trans h)
  · exact .inr ⟨fun l s => by rw [← h]; exact k.1 l s, k.2⟩
  · exact .inr ⟨h.1, fun l s => by rw [k]; exact h.2 l s⟩
  · exact .inr ⟨h.1, k.2⟩
theorem YI.same {Y : Option (YC P)} {T : Nat → Prop} {σ σ' : Sig} {K : Nat → Nat → Option Value} {w : World} (h : YI Y T σ K w) (hs : YSame σ σ') : YI Y T σ' K w := by
  unfold YI at *
  rcases hs with hs | hs
  · cases Y with
    | none => rw [hs]; exact h
    | some y => rw [hs]; exact h
  · cases Y with
    | none => exact ⟨h.1, hs.2⟩
    | some y => obtain ⟨s, h1, _⟩ := h; exact absurd (by rw [h1]) (hs.1 y.l s)

theorem blt_ne {a b : Nat} (h : Nat.blt a b = true) : a ≠ b := by have := Nat.le_of_ble_eq_true h; omega
theorem base_ys {σ σ' : Sig} {sz : Nat} {a : AV} {p : Prop} {es : List (List AV)} (h : baseO sz σ a = some (p, es, σ')) : YSame σ σ' := by
  unfold baseO at h
  split at h
  · cases h; exact .refl _
  · cases h; exact .refl _
  · split at h
    · rename_i hσ; cases h; exact .row hσ (by simp)
    · cases h
  · cases h
theorem baseM_ys {σ σ' : Sig} {sz n : Nat} {a : AV} {p : Prop} {c : List AV} (h : baseM sz σ a = some (p, n, c, σ')) : YSame σ σ' := by
  unfold baseM at h
  split at h
  · cases h; exact .refl _
  · cases h; exact .refl _
  · split at h
    · rename_i hσ; cases h; exact .row hσ (by simp)
    · cases h
  · cases h
theorem eff_ys {op : IOp} {d : Nat} {e : Nat → AV} {σ σ' : Sig} {g : Nat} {p : Prop} {v : AV} (h : effO d op e σ g = some (p, v, σ')) (hd : d ≠ YS) (hs : siteLt op = true) (hk : ∀ i, op ≠ .kil i) : YSame σ σ' := by
  have val : ∀ {o : OV}, (match o with | some (p, v) => some (p, v, σ) | none => none) = some (p, v, σ') → YSame σ σ' := by
    intro o ho
    cases o with
    | none => cases ho
    | some pv => cases ho; exact .refl _
  cases op <;> simp only [effO] at h <;> first | (exact val h) | skip
  · unfold stO at h
    split at h
    · split at h
      · rename_i hσ; cases h; exact .row hσ (by simp)
      · cases h
    · cases h
  · cases h; exact .new hd
  · split at h
    · cases h; exact .new hd
    · cases h
  · split at h
    · cases h; exact .new hd
    · cases h
  · split at h
    · rename_i hb hr; cases h; exact (base_ys hb).trans (.new (blt_ne hs))
    · cases h
  · split at h
    · rename_i hb hr
      split at h
      · cases h; exact .refl _
      · cases h; exact (baseM_ys hb).trans (.new (blt_ne hs))
    · cases h
  · cases h; exact .new (blt_ne hs)
  · exact absurd rfl (hk _)
  · split at h
    · cases h; exact .refl _
    · cases h
  · simp [valO] at h
  · simp [valO] at h

theorem St.stepY {G G' : GS} {e : Nat → AV} {σ σ' : Sig} {a : Act} {w w' : World} (h : St c G e σ a w) (hs : StepOK G σ w G' σ' w') (hy : YSame σ σ') : St c G' e σ' a w' := by
  obtain ⟨T, h1, h2, h3, marks, h4, h5, h6⟩ := h.terr
  have h1' : YI c.Y T σ' G'.K w' := by
    have : YI c.Y T σ G'.K w' := by
      unfold YI at h1 ⊢
      revert h1
      cases c.Y with
      | none => exact id
      | some y =>
        rintro ⟨s, h1, h2'⟩
        exact ⟨s, h1, y.stab _ _ _ _ _ _ h2' hs.inv.kok ⟨hs.ext.os, hs.ext.tape, hs.ext.output, hs.ext.size, fun b hb hn => hs.ext.block b hb fun hf => h2 b hf (Classical.not_not.1 hn), hs.ext.le, fun b hb hn => hs.ext.Kb b hb fun hf => h2 b hf (Classical.not_not.1 hn)⟩⟩
    exact this.same hy
  refine h.call h1 h3 h4 h5 h6 hs.inv hs.le ⟨hs.ext.os, hs.ext.tape, hs.ext.output, hs.ext.size, fun b hb hn => hs.ext.block b hb fun hf => hn (.inl hf), hs.ext.le, fun b hb hn => hs.ext.Kb b hb fun hf => hn (.inl hf)⟩ hs.own h1' (fun b hb hT => ?_) (fun b hb => .inl hb)
  exact (hs.own b hb).elim (fun hf => h2 b hf hT) fun hn => by have := h1.lt hT; omega

theorem upon_enter_ok {o : Oper} {a : Act} {f : Nat} {args : List Value} {w : World} {G : GS} {e : Nat → AV} {σ : Sig} {l : List AV} {d : Nat} {K : AV → Sig → Prop} {next : Act → World → Prop} {Q : Exit → Act → World → Prop}
    (hS : St c G e σ a w) (hl : RelL G l args) (hk : ACall P f l σ d K)
    (hn : ∀ G' σ' w' v av, St c G' e σ' a w' → Rel G' av v → K av σ' → next (a.put o.dst v) w') : o.uponIn (FW c.r) 0 P a next Q (.ok (.enter f args.toArray) w) := by
  rw [Oper.uponIn_enter]
  refine ⟨fun h => (by cases h), ?_⟩
  obtain ⟨T, h1, h2, h3, marks, h4, h5, h6⟩ := hS.terr
  have hcall : Calls P f args.toArray w fun
      | .returned v, w'' => next (a.put o.dst v) w''
      | .panicked chain, w'' => Q (.panic chain) a w''
      | .outgrown, _ => LetsOut Q := by
    refine (hk.2 c.Y T G w args hS.inv h1 h2 hl).mono fun e w' h => ?_
    obtain ⟨v, av, σ', G', T', rfl, k1, k2, k3, k4, k5, k6, _, k7, k8, k9⟩ := h
    exact hn G' σ' w' v av (hS.call h1 h3 h4 h5 h6 k1 k4 k5 k6 k7 k8 k9) k2 k3
  exact (callsIn_wide (n := 0)).2 hcall

theorem upon_round_ok {o : Oper} {a : Act} {y : YC P} {args : List Value} {w : World} {G : GS} {e : Nat → AV} {σ : Sig} {x : List AV} {rest : List (List AV)} {next : Act → World → Prop} {Q : Exit → Act → World → Prop}
    (hS : St c G e σ a w) (hY : c.Y = some y) (hs : σ YS = (0, .yld y.l (some (x :: rest)))) (hl : RelL (GS.pure G.K) x args)
    (hn : ∀ (b : Bool) G' w', St c G' e (upd σ YS (0, .yld y.l (yNext rest b))) a w' → next (a.put o.dst (.bool b)) w') :
    o.uponIn (FW c.r) 0 P a next Q ((Instr.yield y.l args.toArray).run P w) := by
  obtain ⟨T, h1, h2, h3, marks, h4, h5, h6⟩ := hS.terr
  rw [hY] at h1
  obtain ⟨s, hs1, hJ⟩ := h1
  rw [hs] at hs1
  simp only [Prod.mk.injEq, Res.yld.injEq, true_and] at hs1
  subst hs1
  obtain ⟨fn, tmps, assign, body, hrun, hround⟩ := y.round _ _ _ _ _ _ hJ hS.inv.kok hl
  rw [hrun, Oper.uponIn_round]
  refine ⟨fun h => (by cases h), ?_⟩
  have hr : RoundIn Fence.wide 0 P y.l fn tmps assign body w fun
      | .returned v, w'' => next (a.put o.dst v) w''
      | .panicked chain, w'' => Q (.panic chain) a w''
      | .outgrown, _ => LetsOut Q := by
    refine hround.mono fun e' w' h => ?_
    obtain ⟨b, K', T', rfl, k1, k2, k3, k4⟩ := h
    let G' : GS := ⟨K', G.m⟩
    have hle : G.le G' := ⟨fun b o v hv => k3.le _ _ _ hv, fun _ _ _ h => h⟩
    have hfl : ∀ k, Foot G (upd σ YS (0, .yld y.l (yNext rest b))) k → Foot G σ k := by
      rintro k ⟨i, z, ⟨cc, hc⟩, hm⟩
      have hi : i ≠ YS := by rintro rfl; rw [upd_eq, if_pos rfl] at hc; cases hc
      rw [upd_eq, if_neg hi] at hc hm
      exact ⟨i, z, ⟨cc, hc⟩, hm⟩
    have hlt : ∀ k, Foot G σ k → k < w.heap.size := fun k hk => hS.inv.lt hk
    refine hn b G' w' (hS.call (T := T) (by rw [hY]; exact ⟨_, hs, hJ⟩) h3 h4 h5 h6 ?_ hle ⟨k3.os, k3.tape, k3.output, k3.size, fun k hk hn => k3.block k hk fun hT => hn (.inr hT), k3.le, fun k hk hn => k3.Kb k hk fun hT => hn (.inr hT)⟩ (fun k hk => .inl (hfl k hk))
      (by rw [hY]; exact ⟨(yNext rest b), by rw [upd_eq, if_pos rfl], k1⟩) (fun k hk hT => (k4 k hT).elim (h2 k (hfl k hk)) fun hn => by have := hlt k (hfl k hk); omega) k4)
    refine ⟨k2, fun i c' hi => ?_, hS.inv.fresh, fun i j b' p q hij hi hj hp hq => ?_⟩
    · have hiy : i ≠ YS := by rintro rfl; rw [upd_eq, if_pos rfl] at hi; cases hi
      rw [upd_eq, if_neg hiy] at hi ⊢
      rcases hS.inv.res i c' hi with h7 | ⟨b', e', lim, vs, T'', hR⟩
      · exact .inl h7
      · have hb : b' < w.heap.size := (Array.getElem?_eq_some_iff.1 hR.obj).1
        have hnT : ¬ T b' := h2 b' ⟨i, _, ⟨c', hi⟩, hR.m⟩
        refine .inr ⟨b', e', lim, vs, T'', ⟨hR.m, by rw [k3.block b' hb hnT]; exact hR.obj, hR.fit, hR.lim, fun o ho => ?_, fun j a hj => ?_⟩⟩
        · show K' b' o = none
          rw [congrFun (k3.Kb b' hb hnT) o]; exact hR.K o ho
        · obtain ⟨x, hx, hr⟩ := hR.rel j a hj
          exact ⟨x, hx, hr.mono hle⟩
    · have hiy : i ≠ YS := by rintro rfl; obtain ⟨_, hc⟩ := hi; rw [upd_eq, if_pos rfl] at hc; cases hc
      have hjy : j ≠ YS := by rintro rfl; obtain ⟨_, hc⟩ := hj; rw [upd_eq, if_pos rfl] at hc; cases hc
      rw [live_upd hiy] at hi
      rw [live_upd hjy] at hj
      rw [upd_eq, if_neg hiy] at hp
      rw [upd_eq, if_neg hjy] at hq
      exact hS.inv.dist i j b' p q hij hi hj hp hq
  exact hr

theorem putE_none {e : Nat → AV} {v : AV} : putE e none v = e := rfl
theorem cOp_defer {site : Nat} {m : Bool} {oop : Op} {op : IOp} (h : cOp P site m oop = some op) (x : Call) : oop ≠ .defer x := by
  rintro rfl; simp [cOp] at h

/-- One operation. -/
theorem step_sound {H : Hint} {ops : Array Oper} {o : Oper} {st : IStep} {i : Nat} {Q : Exit → Act → World → Prop} {N : Act → World → Prop} {K : (Nat → AV) → Sig → Prop} {G : GS} {e : Nat → AV} {σ : Sig} {a : Act} {w : World}
    (hY : c.n ≤ YS) (hc : cStep P H c.n ops o = some st) (hi : ops[i]? = some o) (hS : St c G e σ a w) (h : st.wp P K e σ)
    (hn : ∀ G' e' σ' a' w', K e' σ' → St c G' e' σ' a' w' → N a' w') : wpOpIn (FW c.r) 0 P ops Q i N a w := by
  simp only [cStep, Option.bind_eq_bind, Option.bind_eq_some_iff] at hc
  obtain ⟨op, hop, g, hg, hc⟩ := hc
  split at hc
  · cases hc
  rename_i hsl0
  have hsl : siteLt op = true := by simpa using hsl0
  have hρ := orel_act hS.env
  have hsem : o.semAt (FW c.r).round a.eval = execOp a.eval o := Oper.semAt_eq _ _ _ fun x hx => by
    unfold cOp' at hop
    split at hop
    · rename_i h1 h2
      split at h1
      · rename_i hnil; unfold isNil at hnil; rw [hx] at hnil; cases hnil
      · cases h1
    · exact cOp_defer hop x hx
  -- the operation, carried out
  have run : ∀ (d : Option Nat), d = o.dst → (∀ x, d = some x → x < c.n) → d.getD 0 ≠ YS → stepW P (d.getD 0) op e σ (contS e d K) → o.wpIn (FW c.r) 0 P a w N Q := by
    intro d hd hlt hdy hw
    refine ⟨fun _ _ => trivial, ?_⟩
    rw [hsem]
    have fin : ∀ G' σ' w' v av, St c G' e σ' a w' → Rel G' av v → contS e d K av σ' → N (a.put o.dst v) w' := by
      intro G' σ' w' v av hst hr hk
      rw [← hd]
      cases d with
      | none => exact hn G' e σ' _ w' hk hst
      | some x => exact hn G' _ σ' _ w' hk (hst.put (hlt x rfl) hr)
    have det : ∀ (op' : IOp), op' = op → (∀ i, op ≠ .kil i) → detW (effO (d.getD 0) op e σ) (contS e d K) → o.uponIn (FW c.r) 0 P a N Q ((execOp a.eval o).run P w) := by
      intro op' _ hkil hw
      rw [hd] at hw
      obtain ⟨v, σ', ⟨hw2, hys⟩, G', w', hst, h2⟩ := det_sound (K := fun v s => contS e o.dst K v s ∧ YSame σ s) hop hρ hS.inv (fun g => by
        have h3 := hw g
        cases he : effO (o.dst.getD 0) op e σ g with
        | none => rw [he] at h3; exact h3.elim
        | some q =>
          obtain ⟨p, v, s⟩ := q
          rw [he] at h3
          exact ⟨h3.1, h3.2, eff_ys he (by rw [← hd]; exact hdy) hsl hkil⟩)
      rw [← hd] at hw2
      rcases h2 with ⟨v', hr, hrel⟩ | ⟨hr, rfl⟩
      · rw [hr, Oper.uponIn_value]; exact fin _ _ _ _ _ (hS.stepY hst hys) hrel hw2
      · rw [hr, Oper.uponIn_skip]; exact fin G' σ' w' undef .junk (hS.stepY hst hys) trivial hw2
    cases op <;> try (refine det _ rfl ?_ hw; simp; done)
    case kil j =>
      exfalso
      unfold cOp' at hop
      split at hop
      · cases hop
      · exact cOp_kil hop
    case callF f args =>
      have hw' : argW (evO e args) (fun l => ACall P f l σ (d.getD 0) (contS e d K)) := hw
      unfold argW at hw'
      split at hw'
      · rename_i l hl
        unfold cOp' at hop
        split at hop
        · cases hop
        · obtain ⟨cargs, ts, ho, has⟩ := cOp_callF hop
          have hrl := cOpds_rel hρ has hl
          have hrun : (execOp a.eval o).run P w = .ok (.enter f (cargs.toList.map a.eval).toArray) w := by
            obtain ⟨dst, oop, ty, pos, af, gd⟩ := o
            simp only at ho; subst ho
            have : (execOp a.eval ⟨dst, .call ⟨.value (.func f), cargs, ts⟩, ty, pos, af, gd⟩) = callFunc f ((#[] ++ cargs.map a.eval) ++ #[]) := rfl
            rw [this, okFn_run hw'.1]
            congr 2
            apply Array.toList_inj.1; simp
          rw [hrun]
          exact upon_enter_ok hS hrl hw' fin
      · exact hw'.elim
    case callV x args =>
      have hw' : argW (evO e args) (fun l => callVW P (x.ev e) l σ (d.getD 0) (contS e d K)) := hw
      unfold argW at hw'
      split at hw'
      · rename_i l hl
        unfold callVW at hw'
        split at hw'
        · rename_i f first caps hx
          unfold cOp' at hop
          split at hop
          · cases hop
          · obtain ⟨y, cargs, ts, ho, hy, has⟩ := cOp_callV hop
            have hrl := cOpds_rel hρ has hl
            have hrx := hρ _ _ hy
            rw [hx] at hrx
            obtain ⟨fa, ca, hv, h1, h2⟩ := hrx
            have hrun : (execOp a.eval o).run P w = .ok (.enter f (fa.toList ++ cargs.toList.map a.eval ++ ca.toList).toArray) w := by
              obtain ⟨dst, oop, ty, pos, af, gd⟩ := o
              simp only at ho; subst ho
              have : (execOp a.eval ⟨dst, .call ⟨.value y, cargs, ts⟩, ty, pos, af, gd⟩) = (do let d ← Deferred.ofValue (a.eval y) (cargs.map a.eval); invoke d.target d.args) := rfl
              rw [this, hv]
              show (callFunc f ((fa ++ cargs.map a.eval) ++ ca)).run P w = _
              rw [okFn_run hw'.1]
              congr 2
              apply Array.toList_inj.1; simp
            rw [hrun]
            refine upon_enter_ok hS (l := first ++ l ++ caps) (RelL.of_get (by simp [h1.length, h2.length, hrl.length]) fun j x hj => ?_) hw' fin
            rw [List.getElem?_append] at hj ⊢
            rw [List.length_append] at hj ⊢
            rw [h1.length, hrl.length]
            split at hj
            · rw [if_pos (by assumption)]
              rw [List.getElem?_append] at hj ⊢
              rw [h1.length]
              split at hj
              · rw [if_pos (by assumption)]; exact h1.get _ _ hj
              · rw [if_neg (by assumption)]; exact hrl.get _ _ hj
            · rw [if_neg (by assumption)]; exact h2.get _ _ hj
        · rename_i l0 hx
          split at hw'
          · rename_i l1 x0 rest hys
            obtain ⟨rfl, hst, hk⟩ := hw'
            unfold cOp' at hop
            split at hop
            · cases hop
            · obtain ⟨y, cargs, ts, ho, hy, has⟩ := cOp_callV hop
              have hrl := cOpds_rel hρ has hl
              have hrx := hρ _ _ hy
              rw [hx] at hrx
              obtain ⟨fa, ca, hv, h1, h2⟩ := hrx
              have hfa : fa = #[] := Array.toList_inj.1 h1
              have hca : ca = #[] := Array.toList_inj.1 h2
              subst hfa; subst hca
              have hrun : (execOp a.eval o).run P w = (Instr.yield l1 (cargs.toList.map a.eval).toArray).run P w := by
                obtain ⟨dst, oop, ty, pos, af, gd⟩ := o
                simp only at ho; subst ho
                have : (execOp a.eval ⟨dst, .call ⟨.value y, cargs, ts⟩, ty, pos, af, gd⟩) = (do let d ← Deferred.ofValue (a.eval y) (cargs.map a.eval); invoke d.target d.args) := rfl
                rw [this, hv]
                show (Instr.yield l1 (#[] ++ cargs.map a.eval)).run P w = _
                congr 2
                apply Array.toList_inj.1; simp
              rw [hrun]
              obtain ⟨T, k1, k2, k3, kk⟩ := hS.terr
              have hcy : ∃ y, c.Y = some y ∧ y.l = l1 := by
                unfold YI at k1
                cases hcY : c.Y with
                | none => rw [hcY] at k1; exact absurd (by rw [hys]) (k1.2 l1 (some (x0 :: rest)))
                | some y =>
                  rw [hcY] at k1
                  obtain ⟨s, h3, _⟩ := k1
                  rw [hys] at h3
                  simp only [Prod.mk.injEq, Res.yld.injEq, true_and] at h3
                  exact ⟨y, rfl, h3.1.symm⟩
              obtain ⟨y, hcy, rfl⟩ := hcy
              refine upon_round_ok hS hcy (x := x0) (rest := rest) hys (by rw [← hst]; exact hrl.strip) fun b G' w' hS' => ?_
              exact fin G' _ w' (.bool b) (.bool b) hS' rfl (hk b)
          · exact hw'.elim
        · exact hw'.elim
      · exact hw'.elim
  have dlt : ∀ x, o.dst = some x → x < c.n ∧ st = ⟨some x, g, op⟩ := by
    intro x hx
    rw [hx] at hc
    simp only at hc
    split at hc
    · cases hc; exact ⟨by assumption, rfl⟩
    · cases hc
  have stq : st = ⟨o.dst, g, op⟩ := by
    cases hd : o.dst with
    | some x => exact (dlt x hd).2
    | none =>
      rw [hd] at hc
      simp only at hc
      cases op <;> simp only at hc <;> first | (cases hc; rfl) | cases hc
  have hdy : o.dst.getD 0 ≠ YS := by
    cases hd : o.dst with
    | none => exact fun h => (by cases h)
    | some x => exact Nat.ne_of_lt (Nat.lt_of_lt_of_le (dlt x hd).1 hY)
  subst stq
  simp only [wpOpIn, hi]
  unfold IStep.wp at h
  unfold cGuard at hg
  cases hgd : o.guard with
  | none =>
    rw [hgd] at hg; cases hg
    rw [if_pos (by simp [Region.wanted, hgd])]
    exact run _ rfl (fun x hx => (dlt x hx).1) hdy h
  | some gb =>
    obtain ⟨j, b⟩ := gb
    rw [hgd] at hg
    simp only at hg
    split at hg
    · rename_i t ht
      cases hg
      simp only at h
      unfold guardW at h
      split at h
      · rename_i cv hcv
        have hr := hS.env t
        rw [hcv] at hr
        simp only [Rel] at hr
        have hy : yielded ops a.tmps j = if t < a.tmps.size then some cv else none := by
          unfold yielded
          rw [ht]
          simp only [Option.bind_some]
          by_cases hlt : t < a.tmps.size
          · rw [if_pos hlt]
            have : a.tmps[t]? = some (.bool cv) := by
              rw [Array.getD_eq_getD_getElem?, Array.getElem?_eq_getElem hlt] at hr
              rw [Array.getElem?_eq_getElem hlt]; simpa using hr
            rw [this]
          · rw [Array.getD_eq_getD_getElem?, Array.getElem?_eq_none (Nat.le_of_not_lt hlt)] at hr
            simp [undef] at hr
        have hlt : t < a.tmps.size := Decidable.byContradiction fun hn => by
          rw [Array.getD_eq_getD_getElem?, Array.getElem?_eq_none (Nat.le_of_not_lt hn)] at hr
          simp [undef] at hr
        rw [if_pos hlt] at hy
        by_cases hcb : cv = b
        · rw [if_pos hcb] at h
          rw [if_pos (by simp [Region.wanted, hgd, hy, hcb])]
          exact run _ rfl (fun x hx => (dlt x hx).1) hdy h
        · rw [if_neg hcb] at h
          rw [if_neg (by simp [Region.wanted, hgd, hy, hcb])]
          refine ⟨fun _ _ => trivial, ?_⟩
          cases hd : o.dst with
          | none => rw [hd] at h; exact hn G e σ _ w h hS
          | some x => rw [hd] at h; exact hn G _ σ _ w h (hS.put (dlt x hd).1 ⟨#[], rfl, rfl⟩)
      · rename_i hcv
        have hr := hS.env t
        rw [hcv] at hr
        obtain ⟨vs, hvs, hvl⟩ := hr
        have hvl' : vs = #[] := Array.toList_inj.1 hvl
        have hy : yielded ops a.tmps j = none := by
          unfold yielded
          rw [ht]
          simp only [Option.bind_some]
          by_cases hlt : t < a.tmps.size
          · have : a.tmps[t]? = some (.tuple #[]) := by
              rw [Array.getD_eq_getD_getElem?, Array.getElem?_eq_getElem hlt] at hvs
              rw [Array.getElem?_eq_getElem hlt]; simpa [hvl'] using hvs
            rw [this]
          · rw [Array.getElem?_eq_none (Nat.le_of_not_lt hlt)]
        rw [if_neg (by simp [Region.wanted, hgd, hy])]
        refine ⟨fun _ _ => trivial, ?_⟩
        cases hd : o.dst with
        | none => rw [hd] at h; exact hn G e σ _ w h hS
        | some x => rw [hd] at h; exact hn G _ σ _ w h (hS.put (dlt x hd).1 ⟨#[], rfl, rfl⟩)
      · exact h.elim
    · cases hg

theorem steps_sound {H : Hint} {ops : Array Oper} {Q : Exit → Act → World → Prop} {K : (Nat → AV) → Sig → Prop} (hY : c.n ≤ YS) (hQ : ∀ G e σ a w, K e σ → St c G e σ a w → Q .normal a w) :
    ∀ (l : List Oper) (k : Nat) (sts : List IStep), ops.toList.drop k = l → cSteps P H c.n ops l = some sts → ∀ G e σ a w, St c G e σ a w → stepsW P sts K e σ → wpOpsIn (FW c.r) 0 P ops Q (List.range' k l.length) a w
  | [], k, sts, _, hc, G, e, σ, a, w, hS, h => by
    simp [cSteps] at hc; subst hc
    exact hQ _ _ _ _ _ h hS
  | o :: l, k, sts, hl, hc, G, e, σ, a, w, hS, h => by
    simp only [cSteps, Option.bind_eq_bind, Option.bind_eq_some_iff] at hc
    obtain ⟨st, hst, r, hr, hc⟩ := hc
    cases hc
    have hk : ops[k]? = some o := by
      have := congrArg (·[0]?) hl
      simp only [List.getElem?_drop, Nat.add_zero, List.getElem?_cons_zero] at this
      simpa using this
    rw [List.length_cons, List.range'_succ, wpOpsIn_cons]
    refine step_sound (K := stepsW P r K) hY hst hk hS h fun G' e' σ' a' w' hK hS' => ?_
    exact steps_sound hY hQ l (k + 1) r (by rw [← List.drop_drop, hl]; rfl) hr G' e' σ' a' w' hS' hK

theorem region_sound {H : Hint} {id : Nat} {ops : Array Oper} {sts : List IStep} {Q : Exit → Act → World → Prop} {K : (Nat → AV) → Sig → Prop} (hY : c.n ≤ YS) (hc : cSteps P H c.n ops ops.toList = some sts)
    (hQ : ∀ G e σ a w, K e σ → St c G e σ a w → Q .normal a w) {G : GS} {e : Nat → AV} {σ : Sig} {a : Act} {w : World} (hS : St c G e σ a w) (h : stepsW P sts K e σ) : (Code.region id ops false).wpIn (FW c.r) 0 P Q a w := by
  refine wpIn_region ?_
  have := steps_sound hY hQ ops.toList 0 sts rfl hc G e σ a w hS h
  rwa [← List.range_eq_range', Array.length_toList] at this

/-- The post of the code, out of the abstract one. -/
def toAX : Exit → Option AX
  | .normal => some .nor
  | .exit id => some (.ex id)
  | .ret => some .ret
  | _ => none
def PostW (c : Ctx P) (Q : Post) (x : Exit) (a : Act) (w : World) : Prop := ∃ ax G e σ, toAX x = some ax ∧ Q ax e σ ∧ St c G e σ a w
end Go.Abs

/-! ### Soundness: regions of open order -/
namespace Go.Abs
variable {P : Program} {c : Ctx P}

def Agree (l : List Nat) (e e' : Nat → AV) : Prop := ∀ t ∈ l, e t = e' t
theorem Agree.left {l m : List Nat} {e e' : Nat → AV} (h : Agree (l ++ m) e e') : Agree l e e' := fun t ht => h t (List.mem_append_left _ ht)
theorem Agree.right {l m : List Nat} {e e' : Nat → AV} (h : Agree (l ++ m) e e') : Agree m e e' := fun t ht => h t (List.mem_append_right _ ht)
theorem Agree.refl {l : List Nat} {e : Nat → AV} : Agree l e e := fun _ _ => rfl
theorem Agree.symm {l : List Nat} {e e' : Nat → AV} (h : Agree l e e') : Agree l e' e := fun t ht => (h t ht).symm
theorem Agree.trans {l : List Nat} {e e' e'' : Nat → AV} (h : Agree l e e') (k : Agree l e' e'') : Agree l e e'' := fun t ht => (h t ht).trans (k t ht)
theorem ev_agree {x : IOpd} {e e' : Nat → AV} (h : Agree x.rd e e') : x.ev e = x.ev e' := by
  cases x with
  | t n => exact h n (by simp [IOpd.rd])
  | k a => rfl
theorem evO_agree {e e' : Nat → AV} : ∀ {l : List IOpd}, Agree (rdL l) e e' → evO e l = evO e' l
  | [], _ => rfl
  | x :: l, h => by simp only [evO]; rw [ev_agree (Agree.left h), evO_agree (Agree.right h)]
theorem bound_agree {e e' : Nat → AV} {d : Int} : ∀ {x : Option IOpd}, Agree (rdO x) e e' → boundO e d x = boundO e' d x
  | none, _ => rfl
  | some x, h => by simp only [boundO]; rw [ev_agree (x := x) h]
theorem bld_agree {e e' : Nat → AV} : ∀ {ps : List (Nat × Nat × IOpd)} {c : List AV}, Agree (rdL (ps.map fun p => p.2.2)) e e' → bldO e c ps = bldO e' c ps
  | [], _, _ => rfl
  | (a, b, x) :: l, _, h => by
    simp only [bldO]; rw [ev_agree (Agree.left (l := x.rd) h)]
    split
    · rw [bld_agree (Agree.right (l := x.rd) h)]
    · rfl
theorem bsl_agree {e e' : Nat → AV} {sz : Nat} : ∀ {ps : List (Nat × IOpd)} {c : List (List AV)}, Agree (rdL (ps.map fun p => p.2)) e e' → bslO e sz c ps = bslO e' sz c ps
  | [], _, _ => rfl
  | (a, x) :: l, _, h => by
    simp only [bslO]; rw [ev_agree (Agree.left (l := x.rd) h)]
    split
    · rw [bsl_agree (Agree.right (l := x.rd) h)]
    · rfl

theorem val_agree {op : IOp} {e e' : Nat → AV} {σ : Sig} (h : Agree op.reads e e') : valO op e σ = valO op e' σ := by
  cases op <;> simp only [IOp.reads] at h <;> simp only [valO] <;> first
    | rfl
    | (rw [ev_agree h]; done)
    | (rw [ev_agree h.left, ev_agree h.right]; done)
    | (rw [ev_agree h.left, ev_agree h.right.left, ev_agree h.right.right]; done)
    | (rw [bld_agree h]; done)
    | (rw [bsl_agree h]; done)
    | (rw [evO_agree h.left, evO_agree h.right]; done)
    | skip
  · rename_i sz x lo hi mx
    unfold slSO
    rw [ev_agree h.left]
    have h1 := h.right.left
    have h2 := h.right.right.left
    have h3 := h.right.right.right
    split
    · rw [bound_agree h1, bound_agree h2, bound_agree h3]
    · rw [bound_agree h1, bound_agree h2]
      split
      · split
        · rfl
        · rename_i m; rw [ev_agree (x := m) h3]
      · rfl
    · rfl
  · rename_i x lo hi
    unfold slTO
    rw [ev_agree h.left]
    split
    · rw [bound_agree h.right.left, bound_agree h.right.right]
    · rfl

theorem eff_agree {op : IOp} {d : Nat} {e e' : Nat → AV} {σ : Sig} {g : Nat} (h : Agree op.reads e e') : effO d op e σ g = effO d op e' σ g := by
  have hv := val_agree (σ := σ) h
  cases op <;> simp only [effO] <;> first
    | (rw [hv]; done)
    | rfl
    | skip
  all_goals simp only [IOp.reads] at h
  · rw [ev_agree h.left, ev_agree h.right]
  · rw [ev_agree h]
  · rw [ev_agree h.left, ev_agree h.right]
  · rw [ev_agree h.left, ev_agree h.right]
  · rw [ev_agree h.left, ev_agree h.right]
  · rename_i sz agg x t
    rw [ev_agree h.left, h t (by simp)]

/-- An operation sees the slots that it reads alone, and hands on its value. -/
theorem step_xfer {d : Nat} {op : IOp} {e e' : Nat → AV} {σ : Sig} {A B : AV → Sig → Prop} (h : Agree op.reads e e') (hAB : ∀ v σ, A v σ → B v σ) (hA : stepW P d op e σ A) : stepW P d op e' σ B := by
  have am : ∀ {f : Nat} {l : List AV} {σ : Sig} {d : Nat}, ACall P f l σ d A → ACall P f l σ d B := by
    intro f l σ d hA
    exact ⟨hA.1, fun Y T G w vals hI hy ht hr => (hA.2 Y T G w vals hI hy ht hr).mono fun e w' ⟨v, av, σ', G', T', h1, h2, h3, h4, h5⟩ => ⟨v, av, σ', G', T', h1, h2, h3, hAB _ _ h4, h5⟩⟩
  have det : detW (effO d op e σ) A → detW (effO d op e' σ) B := by
    intro h1 g
    have h1 := h1 g
    rw [eff_agree h] at h1
    revert h1
    split
    · exact fun h => ⟨h.1, hAB _ _ h.2⟩
    · exact id
  cases op <;> try (exact det hA)
  case callF f args =>
    have hA' : argW (evO e args) (fun l => ACall P f l σ d A) := hA
    show argW (evO e' args) (fun l => ACall P f l σ d B)
    rw [evO_agree h] at hA'
    unfold argW at *; split
    · rename_i l hl; rw [hl] at hA'; exact am hA'
    · rename_i hl; rw [hl] at hA'; exact hA'
  case callV x args =>
    simp only [IOp.reads] at h
    have hA' : argW (evO e args) (fun l => callVW P (x.ev e) l σ d A) := hA
    show argW (evO e' args) (fun l => callVW P (x.ev e') l σ d B)
    rw [evO_agree h.right, ev_agree h.left] at hA'
    cases hl : evO e' args with
    | none => rw [hl] at hA'; exact hA'
    | some l =>
      rw [hl] at hA'
      have hA2 : callVW P (x.ev e') l σ d A := hA'
      show callVW P (x.ev e') l σ d B
      generalize x.ev e' = y at hA2 ⊢
      cases y <;> try (exact hA2)
      rename_i fn a b
      cases fn <;> try (exact hA2)
      · exact am hA2
      · rename_i yl
        cases a <;> cases b <;> try (exact hA2)
        unfold callVW at hA2 ⊢
        simp only at hA2 ⊢
        split at hA2
        · exact ⟨hA2.1, hA2.2.1, fun b => hAB _ _ (hA2.2.2 b)⟩
        · exact hA2

theorem IStep.xfer {s : IStep} {e e' : Nat → AV} {σ : Sig} {K K' : (Nat → AV) → Sig → Prop} (h : Agree s.reads e e') (hK : ∀ v σ, K (putE e s.dst v) σ → K' (putE e' s.dst v) σ) (hs : s.wp P K e σ) : s.wp P K' e' σ := by
  obtain ⟨d, g, op⟩ := s
  cases g with
  | none => exact step_xfer h (fun v σ hv => hK v σ hv) hs
  | some gb =>
    obtain ⟨g, b⟩ := gb
    have hg : e g = e' g := h g (by simp [IStep.reads])
    have ho : Agree op.reads e e' := fun t ht => h t (by simp [IStep.reads, ht])
    have hs' : guardW (e g) b (stepW P (d.getD 0) op e σ (contS e d K)) (K (putE e d (.tup [])) σ) := hs
    show guardW (e' g) b (stepW P (d.getD 0) op e' σ (contS e' d K')) (K' (putE e' d (.tup [])) σ)
    rw [hg] at hs'
    unfold guardW at *
    split
    · rename_i cv hcv; rw [hcv] at hs'; simp only at hs'
      split
      · rw [if_pos (by assumption)] at hs'; exact step_xfer ho (fun v σ hv => hK v σ hv) hs'
      · rw [if_neg (by assumption)] at hs'; exact hK _ _ hs'
    · rename_i hcv; rw [hcv] at hs'; exact hK _ _ hs'
    · rename_i hn hn2
      revert hs'; split
      · rename_i cv hcv; exact absurd hcv (hn _)
      · rename_i hcv; exact absurd hcv hn2
      · exact id
theorem IStep.mono {s : IStep} {e : Nat → AV} {σ : Sig} {K K' : (Nat → AV) → Sig → Prop} (hs : s.wp P K e σ) (hK : ∀ e σ, K e σ → K' e σ) : s.wp P K' e σ := s.xfer Agree.refl (fun _ _ h => hK _ _ h) hs

theorem mem_false {d t : Nat} : ∀ {l : List Nat}, mem d l = false → t ∈ l → t ≠ d
  | a :: r, h1, h2 => by
    simp only [mem] at h1
    split at h1
    · cases h1
    · rename_i hb
      rcases List.mem_cons.1 h2 with rfl | h2
      · rintro rfl; simp at hb
      · exact mem_false h1 h2
theorem mem_true {d : Nat} : ∀ {l : List Nat}, mem d l = true → d ∈ l
  | a :: r, h1 => by
    simp only [mem] at h1
    split at h1
    · rename_i hb; rw [Nat.eq_of_beq_eq_true hb]; exact List.mem_cons_self
    · exact List.mem_cons_of_mem _ (mem_true h1)
theorem putE_agree {s : IStep} {l : List Nat} {e : Nat → AV} {v : AV} (h : dstIn s l = false) : Agree l (putE e s.dst v) e := by
  intro t ht
  unfold dstIn at h
  cases hd : s.dst with
  | none => rfl
  | some d =>
    rw [hd] at h
    show upd e d v t = e t
    rw [upd_eq, if_neg (mem_false h ht)]
theorem putE_comm {a x : IStep} {e : Nat → AV} {v u : AV} (h : sameDst a x = false) : putE (putE e a.dst v) x.dst u = putE (putE e x.dst u) a.dst v := by
  unfold putE
  unfold sameDst at h
  cases ha : a.dst with
  | none => rfl
  | some p =>
    cases hx : x.dst with
    | none => rfl
    | some q =>
      rw [ha, hx] at h
      simp only at h ⊢
      funext t
      simp only [upd_eq]
      have : p ≠ q := by rintro rfl; simp at h
      by_cases h1 : t = q
      · subst h1; simp [Ne.symm this]
      · simp [h1]

/-! normal forms -/
theorem isV_det {op : IOp} (h : op.cls = .v ∨ op.cls = .l) {d : Nat} {e : Nat → AV} {σ : Sig} {K : AV → Sig → Prop} : stepW P d op e σ K ↔ (match valO op e σ with | some (p, v) => p ∧ K v σ | none => False) := by
  have key : ∀ g, effO d op e σ g = (match valO op e σ with | some (p, v) => some (p, v, σ) | none => none) := by
    intro g
    cases op <;> first | rfl | (simp [IOp.cls] at h)
  have hd : detW (effO d op e σ) K ↔ (match valO op e σ with | some (p, v) => p ∧ K v σ | none => False) := by
    constructor
    · intro h1
      have h1 := h1 0
      rw [key] at h1
      cases hv : valO op e σ with
      | none => rw [hv] at h1; exact h1
      | some pv => rw [hv] at h1; exact h1
    · intro h1 g
      rw [key]
      cases hv : valO op e σ with
      | none => rw [hv] at h1; exact h1
      | some pv => rw [hv] at h1; exact h1
  cases op <;> first | exact hd | (simp [IOp.cls] at h)

/-- A value: its condition and it. -/
theorem NFl {s : IStep} (hs : s.op.cls = .v ∨ s.op.cls = .l) (e : Nat → AV) (σ : Sig) : ∃ p v, ∀ e', Agree s.reads e e' → ∀ K, s.wp P K e' σ ↔ (p ∧ K (putE e' s.dst v) σ) := by
  obtain ⟨d, g, op⟩ := s
  simp only at hs
  have base : ∃ p v, ∀ e', Agree op.reads e e' → ∀ K, stepW P (d.getD 0) op e' σ (contS e' d K) ↔ (p ∧ K (putE e' d v) σ) := by
    cases hv : valO op e σ with
    | none =>
      refine ⟨False, .junk, fun e' he K => ?_⟩
      rw [isV_det hs, ← val_agree he, hv]; simp
    | some pv =>
      refine ⟨pv.1, pv.2, fun e' he K => ?_⟩
      rw [isV_det hs, ← val_agree he, hv]; rfl
  obtain ⟨p, v, hb⟩ := base
  cases g with
  | none => exact ⟨p, v, hb⟩
  | some gb =>
    obtain ⟨g, b⟩ := gb
    have ho : ∀ e', Agree (IStep.reads ⟨d, some (g, b), op⟩) e e' → Agree op.reads e e' := fun e' h t ht => h t (by simp [IStep.reads, ht])
    have hg : ∀ e', Agree (IStep.reads ⟨d, some (g, b), op⟩) e e' → e g = e' g := fun e' h => h g (by simp [IStep.reads])
    have red : ∀ e' K, IStep.wp P ⟨d, some (g, b), op⟩ K e' σ = guardW (e' g) b (stepW P (d.getD 0) op e' σ (contS e' d K)) (K (putE e' d (.tup [])) σ) := fun _ _ => rfl
    cases hc : e g with
    | bool cv =>
      by_cases hb' : cv = b
      · refine ⟨p, v, fun e' he K => ?_⟩
        rw [red, ← hg e' he, hc]
        simp only [guardW, if_pos hb']
        exact hb e' (ho e' he) K
      · refine ⟨True, .tup [], fun e' he K => ?_⟩
        rw [red, ← hg e' he, hc]
        simp only [guardW, if_neg hb', true_and]
    | tup l =>
      cases l with
      | nil =>
        refine ⟨True, .tup [], fun e' he K => ?_⟩
        rw [red, ← hg e' he, hc]
        simp only [guardW, true_and]
      | cons a l =>
        refine ⟨False, .junk, fun e' he K => ?_⟩
        rw [red, ← hg e' he, hc]
        simp [guardW]
    | _ =>
      refine ⟨False, .junk, fun e' he K => ?_⟩
      rw [red, ← hg e' he, hc]
      simp [guardW]
/-- A value of slots alone. -/
theorem NFv {s : IStep} (hs : s.op.cls = .v) (e : Nat → AV) : ∃ p v, ∀ e', Agree s.reads e e' → ∀ σ K, s.wp P K e' σ ↔ (p ∧ K (putE e' s.dst v) σ) := by
  obtain ⟨d, g, op⟩ := s
  simp only at hs
  have hval : ∀ σ σ', valO op e σ = valO op e σ' := by
    intro σ σ'; cases op <;> first | rfl | (simp [IOp.cls] at hs)
  have base : ∃ p v, ∀ e', Agree op.reads e e' → ∀ σ K, stepW P (d.getD 0) op e' σ (contS e' d K) ↔ (p ∧ K (putE e' d v) σ) := by
    cases hv : valO op e sig0 with
    | none =>
      refine ⟨False, .junk, fun e' he σ K => ?_⟩
      rw [isV_det (.inl hs), ← val_agree he, hval σ sig0, hv]; simp
    | some pv =>
      refine ⟨pv.1, pv.2, fun e' he σ K => ?_⟩
      rw [isV_det (.inl hs), ← val_agree he, hval σ sig0, hv]; rfl
  obtain ⟨p, v, hb⟩ := base
  cases g with
  | none => exact ⟨p, v, hb⟩
  | some gb =>
    obtain ⟨g, b⟩ := gb
    have ho : ∀ e', Agree (IStep.reads ⟨d, some (g, b), op⟩) e e' → Agree op.reads e e' := fun e' h t ht => h t (by simp [IStep.reads, ht])
    have hg : ∀ e', Agree (IStep.reads ⟨d, some (g, b), op⟩) e e' → e g = e' g := fun e' h => h g (by simp [IStep.reads])
    have red : ∀ e' σ K, IStep.wp P ⟨d, some (g, b), op⟩ K e' σ = guardW (e' g) b (stepW P (d.getD 0) op e' σ (contS e' d K)) (K (putE e' d (.tup [])) σ) := fun _ _ _ => rfl
    cases hc : e g with
    | bool cv =>
      by_cases hb' : cv = b
      · refine ⟨p, v, fun e' he σ K => ?_⟩
        rw [red, ← hg e' he, hc]
        simp only [guardW, if_pos hb']
        exact hb e' (ho e' he) σ K
      · refine ⟨True, .tup [], fun e' he σ K => ?_⟩
        rw [red, ← hg e' he, hc]
        simp only [guardW, if_neg hb', true_and]
    | tup l =>
      cases l with
      | nil =>
        refine ⟨True, .tup [], fun e' he σ K => ?_⟩
        rw [red, ← hg e' he, hc]
        simp only [guardW, true_and]
      | cons a l =>
        refine ⟨False, .junk, fun e' he σ K => ?_⟩
        rw [red, ← hg e' he, hc]
        simp [guardW]
    | _ =>
      refine ⟨False, .junk, fun e' he σ K => ?_⟩
      rw [red, ← hg e' he, hc]
      simp [guardW]

theorem isN_eff {op : IOp} (h : op.cls = .n) (d : Nat) (e : Nat → AV) : ∃ (p : Prop) (val : Nat → AV) (c : List AV), ∀ e', Agree op.reads e e' → ∀ σ K, stepW P d op e' σ K ↔ ∀ g, p ∧ K (val g) (newS σ d g c) := by
  have mk : ∀ {p : Prop} {val : Nat → AV} {c : List AV}, (∀ σ g, effO d op e σ g = some (p, val g, newS σ d g c)) → ∃ (p : Prop) (val : Nat → AV) (c : List AV), ∀ e', Agree op.reads e e' → ∀ σ K, stepW P d op e' σ K ↔ ∀ g, p ∧ K (val g) (newS σ d g c) := by
    intro p val c hh
    refine ⟨p, val, c, fun e' he σ K => ?_⟩
    have hd : detW (effO d op e' σ) K ↔ ∀ g, p ∧ K (val g) (newS σ d g c) := by
      constructor
      · intro h1 g; have h1 := h1 g; rw [← eff_agree he, hh] at h1; exact h1
      · intro h1 g; rw [← eff_agree he, hh]; exact h1 g
    cases op <;> first | exact hd | (simp [IOp.cls] at h)
  have no : (∀ σ g, effO d op e σ g = none) → ∃ (p : Prop) (val : Nat → AV) (c : List AV), ∀ e', Agree op.reads e e' → ∀ σ K, stepW P d op e' σ K ↔ ∀ g, p ∧ K (val g) (newS σ d g c) := by
    intro hh
    refine ⟨False, fun _ => .junk, [], fun e' he σ K => ?_⟩
    have hd : detW (effO d op e' σ) K ↔ ∀ g : Nat, False ∧ K .junk (newS σ d g []) := by
      constructor
      · intro h1; have h1 := h1 0; rw [← eff_agree he, hh] at h1; exact h1.elim
      · intro h1; exact (h1 0).1.elim
    cases op <;> first | exact hd | (simp [IOp.cls] at h)
  cases op <;> first | (simp [IOp.cls] at h; done) | skip
  · exact mk (p := True) fun σ g => rfl
  · rename_i sz v
    cases hc : cellsO sz (v.ev e) with
    | none => exact no fun σ g => by simp only [effO, hc]
    | some pc => exact mk fun σ g => by simp only [effO, hc]; rfl
  · rename_i sz by' z len cap
    cases h1 : len.ev e <;> cases h2 : cap.ev e <;> first | (refine no fun σ g => ?_; simp only [effO, h1, h2]; done) | skip
    exact mk fun σ g => by simp only [effO, h1, h2]; rfl

/-- A new resource: passed over, or made. -/
theorem NFn {s : IStep} (hs : s.op.cls = .n) (e : Nat → AV) :
    (∃ p : Prop, ∀ e', Agree s.reads e e' → ∀ σ K, s.wp P K e' σ ↔ (p ∧ K (putE e' s.dst (.tup [])) σ)) ∨
    ∃ (p : Prop) (val : Nat → AV) (c : List AV), ∀ e', Agree s.reads e e' → ∀ σ K, s.wp P K e' σ ↔ ∀ g, p ∧ K (putE e' s.dst (val g)) (newS σ (s.dst.getD 0) g c) := by
  obtain ⟨d, g, op⟩ := s
  simp only at hs
  obtain ⟨p, val, c, hb⟩ := isN_eff (P := P) hs (d.getD 0) e
  cases g with
  | none => exact .inr ⟨p, val, c, fun e' he σ K => hb e' he σ _⟩
  | some gb =>
    obtain ⟨g, b⟩ := gb
    have ho : ∀ e', Agree (IStep.reads ⟨d, some (g, b), op⟩) e e' → Agree op.reads e e' := fun e' h t ht => h t (by simp [IStep.reads, ht])
    have hg : ∀ e', Agree (IStep.reads ⟨d, some (g, b), op⟩) e e' → e g = e' g := fun e' h => h g (by simp [IStep.reads])
    have red : ∀ e' σ K, IStep.wp P ⟨d, some (g, b), op⟩ K e' σ = guardW (e' g) b (stepW P (d.getD 0) op e' σ (contS e' d K)) (K (putE e' d (.tup [])) σ) := fun _ _ _ => rfl
    cases hc : e g with
    | bool cv =>
      by_cases hb' : cv = b
      · refine .inr ⟨p, val, c, fun e' he σ K => ?_⟩
        rw [red, ← hg e' he, hc]
        simp only [guardW, if_pos hb']
        exact hb e' (ho e' he) σ _
      · refine .inl ⟨True, fun e' he σ K => ?_⟩
        rw [red, ← hg e' he, hc]
        simp only [guardW, if_neg hb', true_and]
    | tup l =>
      cases l with
      | nil =>
        refine .inl ⟨True, fun e' he σ K => ?_⟩
        rw [red, ← hg e' he, hc]
        simp only [guardW, true_and]
      | cons a l =>
        refine .inl ⟨False, fun e' he σ K => ?_⟩
        rw [red, ← hg e' he, hc]
        simp [guardW]
    | _ =>
      refine .inl ⟨False, fun e' he σ K => ?_⟩
      rw [red, ← hg e' he, hc]
      simp [guardW]

/-! what the watches say -/
def chkP (sz : Nat) (agg : Bool) (y : IOpd) (t : Nat) (e : Nat → AV) (σ : Sig) : Prop := match ldO sz agg σ (y.ev e) with
  | some (p, v) => p ∧ v = e t
  | none => False
def CH (s : IStep) (e : Nat → AV) (σ : Sig) : Prop := match s with
  | ⟨some t, none, .ld sz agg y⟩ => chkP sz agg y t e σ
  | ⟨some t, some (g, b), .ld sz agg y⟩ => guardW (e g) b (chkP sz agg y t e σ) True
  | _ => True
theorem chk_steps {s s' : IStep} (h : chkOf s = some s') {r : List IStep} {K : (Nat → AV) → Sig → Prop} {e : Nat → AV} {σ : Sig} (hs : stepsW P (s' :: r) K e σ) : CH s e σ ∧ stepsW P r K e σ := by
  have base : ∀ {sz agg y t}, stepW P 0 (.chk sz agg y t) e σ (contS e none (stepsW P r K)) → chkP sz agg y t e σ ∧ stepsW P r K e σ := by
    intro sz agg y t h
    have h1 : detW (effO 0 (.chk sz agg y t) e σ) (contS e none (stepsW P r K)) := h
    have h1 := h1 0
    simp only [effO] at h1
    unfold chkP
    cases hl : ldO sz agg σ (y.ev e) with
    | none => rw [hl] at h1; exact h1.elim
    | some pv => rw [hl] at h1; exact h1
  unfold chkOf at h
  split at h
  · rename_i t g sz agg x
    cases h
    cases g with
    | none => exact base hs
    | some gb =>
      obtain ⟨g, b⟩ := gb
      have hs' : guardW (e g) b (stepW P 0 (.chk sz agg x t) e σ (contS e none (stepsW P r K))) (stepsW P r K e σ) := hs
      show guardW (e g) b (chkP sz agg x t e σ) True ∧ stepsW P r K e σ
      unfold guardW at *
      split
      · rename_i cv hcv; rw [hcv] at hs'; simp only at hs'
        split
        · rw [if_pos (by assumption)] at hs'; exact base hs'
        · rw [if_neg (by assumption)] at hs'; exact ⟨trivial, hs'⟩
      · rename_i hcv; rw [hcv] at hs'; exact ⟨trivial, hs'⟩
      · rename_i hn hn2
        revert hs'; split
        · rename_i cv hcv; exact absurd hcv (hn _)
        · rename_i hcv; exact absurd hcv hn2
        · exact False.elim
  · cases h
theorem CH_none {s : IStep} (h : chkOf s = none) (e : Nat → AV) (σ : Sig) : CH s e σ := by
  unfold CH
  split
  · simp [chkOf] at h
  · simp [chkOf] at h
  · trivial
/-- A watch sees the load's slots alone. -/
theorem CH_agree {s : IStep} {e e' : Nat → AV} {σ : Sig} (h : (chkOf s).isSome = true → Agree s.reads e e' ∧ ∀ t, s.dst = some t → e t = e' t) (hc : CH s e σ) : CH s e' σ := by
  unfold CH at *
  split
  · rename_i t sz agg y
    obtain ⟨h1, h2⟩ := h rfl
    have h2 := h2 t rfl
    simp only [IStep.reads, IOp.reads] at h1
    simp only at hc
    unfold chkP at *
    rw [ev_agree h1, h2] at hc; exact hc
  · rename_i t g b sz agg y
    obtain ⟨h1, h2⟩ := h rfl
    have h2 := h2 t rfl
    have h3 : e g = e' g := h1 g (by simp [IStep.reads])
    have h4 : Agree y.rd e e' := fun t ht => h1 t (by simp [IStep.reads, IOp.reads, ht])
    simp only at hc
    unfold chkP at *
    rw [ev_agree h4, h2, h3] at hc; exact hc
  · trivial

theorem newS_dead {σ : Sig} {d g : Nat} {c : List AV} {sz : Nat} {agg : Bool} {a : AV} {r : Prop × AV} (h : σ d = (0, .dead)) (hl : ldO sz agg σ a = some r) : ldO sz agg (newS σ d g c) a = some r := by
  cases a <;> try (exact hl)
  rename_i i g' off
  simp only [ldO] at hl ⊢
  by_cases hi : i = d
  · subst hi; rw [h] at hl; cases hl
  · rw [newS, upd_eq, if_neg hi]; exact hl
theorem newS_all {σ : Sig} {d : Nat} {c : List AV} {sz : Nat} {agg : Bool} {a : AV} (h : ∀ g, ∃ p v, ldO sz agg (newS σ d g c) a = some (p, v) ∧ p) (g : Nat) : ldO sz agg (newS σ d g c) a = ldO sz agg σ a := by
  cases a <;> try rfl
  rename_i i g' off
  simp only [ldO] at h ⊢
  by_cases hi : i = d
  · subst hi
    obtain ⟨p, v, h1, h2⟩ := h (g' + 1)
    rw [newS, upd_eq, if_pos rfl] at h1
    simp only at h1
    split at h1
    · cases h1; omega
    · cases h1
  · rw [newS, upd_eq, if_neg hi]
theorem CH_new {s : IStep} {e : Nat → AV} {σ : Sig} {d g : Nat} {c : List AV} (h : σ d = (0, .dead)) (hc : CH s e σ) : CH s e (newS σ d g c) := by
  have base : ∀ {sz agg y t}, chkP sz agg y t e σ → chkP sz agg y t e (newS σ d g c) := by
    intro sz agg y t h1
    unfold chkP at *
    cases hl : ldO sz agg σ (y.ev e) with
    | none => rw [hl] at h1; exact h1.elim
    | some pv => rw [newS_dead h hl]; rw [hl] at h1; exact h1
  unfold CH at *
  split
  · exact base hc
  · simp only at hc
    unfold guardW at *
    split
    · rename_i cv hcv; rw [hcv] at hc; simp only at hc
      split
      · rw [if_pos (by assumption)] at hc; exact base hc
      · trivial
    · trivial
    · rename_i hn hn2
      revert hc; split
      · rename_i cv hcv; exact absurd hcv (hn _)
      · rename_i hcv; exact absurd hcv hn2
      · exact id
  · trivial

/-- A load with a destination. -/
theorem isL_inv {s : IStep} (h : s.op.cls = .l) (hd : s.dst.isSome = true) : ∃ t g sz agg y, s = ⟨some t, g, .ld sz agg y⟩ := by
  obtain ⟨d, g, op⟩ := s
  cases op <;> first | (simp [IOp.cls] at h; done) | skip
  cases d with
  | none => cases hd
  | some t => exact ⟨_, _, _, _, _, rfl⟩
/-- A load: its value, which the watch finds again; and where the watch finds it, it may be loaded. -/
theorem NFL {s : IStep} {t : Nat} {g : Option (Nat × Bool)} {sz : Nat} {agg : Bool} {y : IOpd} (hs : s = ⟨some t, g, .ld sz agg y⟩) (hown : dstIn s s.reads = false) {e : Nat → AV} {σ : Sig} {K : (Nat → AV) → Sig → Prop} (h : s.wp P K e σ) :
    ∃ v, K (upd e t v) σ ∧ CH s (upd e t v) σ ∧ ∀ e' σ' K', Agree s.reads e e' → CH s (upd e' t v) σ' → K' (upd e' t v) σ' → s.wp P K' e' σ' := by
  subst hs
  have ha : ∀ e v, Agree (IStep.reads ⟨some t, g, .ld sz agg y⟩) (upd e t v) e := fun e v => putE_agree (s := ⟨some t, g, .ld sz agg y⟩) hown
  cases g with
  | none =>
    have h' : stepW P t (.ld sz agg y) e σ (contS e (some t) K) := h
    rw [isV_det (.inr rfl)] at h'
    simp only [valO] at h'
    cases hl : ldO sz agg σ (y.ev e) with
    | none => rw [hl] at h'; exact h'.elim
    | some pv =>
      rw [hl] at h'
      refine ⟨pv.2, h'.2, ?_, fun e' σ' K' hA hc hk => ?_⟩
      · show chkP sz agg y t (upd e t pv.2) σ
        unfold chkP
        rw [ev_agree (x := y) (ha e _), hl, upd_eq, if_pos rfl]; exact ⟨h'.1, rfl⟩
      · have hc' : chkP sz agg y t (upd e' t pv.2) σ' := hc
        unfold chkP at hc'
        rw [ev_agree (x := y) (ha e' _), upd_eq, if_pos rfl] at hc'
        show stepW P t (.ld sz agg y) e' σ' (contS e' (some t) K')
        rw [isV_det (.inr rfl)]
        simp only [valO]
        cases hl' : ldO sz agg σ' (y.ev e') with
        | none => rw [hl'] at hc'; exact hc'
        | some pv' =>
          rw [hl'] at hc'
          refine ⟨hc'.1, ?_⟩
          show K' (upd e' t pv'.2) σ'
          rw [hc'.2]; exact hk
  | some gb =>
    obtain ⟨g, b⟩ := gb
    have red : ∀ e' σ' K', IStep.wp P ⟨some t, some (g, b), .ld sz agg y⟩ K' e' σ' = guardW (e' g) b (stepW P t (.ld sz agg y) e' σ' (contS e' (some t) K')) (K' (upd e' t (.tup [])) σ') := fun _ _ _ => rfl
    have redC : ∀ e' σ', CH ⟨some t, some (g, b), .ld sz agg y⟩ e' σ' = guardW (e' g) b (chkP sz agg y t e' σ') True := fun _ _ => rfl
    have hgt : ∀ (e : Nat → AV) v, upd e t v g = e g := fun e v => ha e v g (by simp [IStep.reads])
    have hy : ∀ (e : Nat → AV) v, y.ev (upd e t v) = y.ev e := fun e v => ev_agree fun x hx => ha e v x (by simp [IStep.reads, IOp.reads, hx])
    rw [red] at h
    cases hc : e g with
    | bool cv =>
      rw [hc] at h
      by_cases hb : cv = b
      · simp only [guardW, if_pos hb] at h
        rw [isV_det (.inr rfl)] at h
        simp only [valO] at h
        cases hl : ldO sz agg σ (y.ev e) with
        | none => rw [hl] at h; exact h.elim
        | some pv =>
          rw [hl] at h
          refine ⟨pv.2, h.2, ?_, fun e' σ' K' hA hcc hk => ?_⟩
          · rw [redC, hgt, hc]
            simp only [guardW, if_pos hb]
            unfold chkP
            rw [hy, hl, upd_eq, if_pos rfl]; exact ⟨h.1, rfl⟩
          · have hg' : e' g = .bool cv := by rw [← hA g (by simp [IStep.reads])]; exact hc
            rw [redC, hgt, hg'] at hcc
            rw [red, hg']
            simp only [guardW, if_pos hb] at hcc ⊢
            unfold chkP at hcc
            rw [hy, upd_eq, if_pos rfl] at hcc
            rw [isV_det (.inr rfl)]
            simp only [valO]
            cases hl' : ldO sz agg σ' (y.ev e') with
            | none => rw [hl'] at hcc; exact hcc
            | some pv' =>
              rw [hl'] at hcc
              refine ⟨hcc.1, ?_⟩
              show K' (upd e' t pv'.2) σ'
              rw [hcc.2]; exact hk
      · simp only [guardW, if_neg hb] at h
        refine ⟨.tup [], h, ?_, fun e' σ' K' hA hcc hk => ?_⟩
        · rw [redC, hgt, hc]; simp only [guardW, if_neg hb]
        · have hg' : e' g = .bool cv := by rw [← hA g (by simp [IStep.reads])]; exact hc
          rw [red, hg']; simp only [guardW, if_neg hb]; exact hk
    | tup l =>
      rw [hc] at h
      cases l with
      | nil =>
        refine ⟨.tup [], h, ?_, fun e' σ' K' hA hcc hk => ?_⟩
        · rw [redC, hgt, hc]; trivial
        · have hg' : e' g = .tup [] := by rw [← hA g (by simp [IStep.reads])]; exact hc
          rw [red, hg']; exact hk
      | cons _ _ => exact h.elim
    | _ => rw [hc] at h; exact h.elim
end Go.Abs

namespace Go.Abs
variable {P : Program} {c : Ctx P}
theorem newS_comm {σ : Sig} {i j g h : Nat} {z y : List AV} (hij : i ≠ j) : newS (newS σ i g z) j h y = newS (newS σ j h y) i g z := by
  funext k; simp only [newS, upd_eq]
  by_cases h1 : k = j <;> by_cases h2 : k = i <;> simp [h1, h2] <;> omega
theorem newS_upd {σ : Sig} {i j g : Nat} {z : List AV} {r : Nat × Res} (hij : i ≠ j) : upd (newS σ i g z) j r = newS (upd σ j r) i g z := by
  funext k; simp only [newS, upd_eq]
  by_cases h1 : k = j <;> by_cases h2 : k = i <;> simp [h1, h2] <;> omega
theorem base_dead {σ : Sig} {i sz : Nat} {a : AV} {p : Prop} {es : List (List AV)} {σ1 : Sig} (h0 : σ i = (0, .dead)) (h : baseO sz σ a = some (p, es, σ1)) :
    σ1 i = (0, .dead) ∧ ∀ g z, baseO sz (newS σ i g z) a = some (p, es, newS σ1 i g z) := by
  unfold baseO at h
  split at h
  · cases h; exact ⟨h0, fun g z => rfl⟩
  · cases h; exact ⟨h0, fun g z => rfl⟩
  · rename_i j g'
    by_cases hj : j = i
    · subst hj; rw [h0] at h; cases h
    · split at h
      · rename_i g'' c hσ
        cases h
        refine ⟨by rw [upd_eq, if_neg (Ne.symm hj)]; exact h0, fun g z => ?_⟩
        unfold baseO
        have : newS σ i g z j = σ j := by rw [newS, upd_eq, if_neg hj]
        simp only [this, hσ]
        rw [newS_upd (Ne.symm hj)]
      · cases h
  · cases h
theorem beq_ne {a b : Nat} (h : (!Nat.beq a b) = true) : a ≠ b := by rintro rfl; simp at h

theorem beqf_ne {a b : Nat} (h : Nat.beq a b = false) : a ≠ b := by rintro rfl; simp at h
theorem ne_beq {a b : Nat} (h : a ≠ b) : Nat.beq a b = false := by
  cases hb : Nat.beq a b with
  | false => rfl
  | true => exact absurd (Nat.eq_of_beq_eq_true hb) h
theorem eff_dead {op : IOp} {d i : Nat} {e : Nat → AV} {σ σ1 : Sig} {γ : Nat} {p : Prop} {v : AV} (hs : siteOK d i op = true) (h0 : σ i = (0, .dead)) (h : effO d op e σ γ = some (p, v, σ1)) :
    (∀ f a, op ≠ .callF f a) → (∀ f a, op ≠ .callV f a) → σ1 i = (0, .dead) ∧ ∀ g z, effO d op e (newS σ i g z) γ = some (p, v, newS σ1 i g z) := by
  intro hf hv
  cases op <;> simp only [siteOK] at hs <;> first | (cases hs; done) | skip
  · rename_i sz x y
    simp only [effO] at h ⊢
    unfold stO at h
    split at h
    · rename_i j g' off hx
      by_cases hj : j = i
      · subst hj
        rw [h0] at h
        split at h
        · rename_i hh; cases hh
        · cases h
      · split at h
        · rename_i q cs g'' c hcc hσ
          cases h
          refine ⟨by rw [upd_eq, if_neg (Ne.symm hj)]; exact h0, fun g z => ?_⟩
          unfold stO
          have : newS σ i g z j = σ j := by rw [newS, upd_eq, if_neg hj]
          simp only [hx, this, hσ, hcc]
          rw [newS_upd (Ne.symm hj)]
        · cases h
    · cases h
  · rename_i sz bytes x y site
    simp only [effO] at h ⊢
    have hsi := beq_ne hs
    split at h
    · rename_i q es σ' q' ys hb hr
      cases h
      obtain ⟨h1, h2⟩ := base_dead h0 hb
      refine ⟨by rw [newS, upd_eq, if_neg (Ne.symm hsi)]; exact h1, fun g z => ?_⟩
      rw [h2, hr]
      simp only
      rw [newS_comm (Ne.symm hsi)]
    · cases h
  · rename_i sz site
    simp only [effO] at h ⊢
    have hsi := beq_ne hs
    cases h
    refine ⟨by rw [newS, upd_eq, if_neg (Ne.symm hsi)]; exact h0, fun g z => ?_⟩
    rw [newS_comm (Ne.symm hsi)]
  · exact absurd rfl (hf _ _)
  · exact absurd rfl (hv _ _)

theorem siteC {d i : Nat} (h : (!Nat.beq d i && Nat.blt i YS) = true) : d ≠ i ∧ i < YS := by
  simp only [Bool.and_eq_true] at h; exact ⟨beq_ne h.1, Nat.le_of_ble_eq_true h.2⟩
theorem ACall.dead {f : Nat} {l : List AV} {σ : Sig} {d : Nat} {A : AV → Sig → Prop} {S : Nat → Prop} (hS : ∀ i, S i → σ i = (0, .dead) ∧ d ≠ i ∧ i < YS) (h : ACall P f l σ d A) :
    ACall P f l σ d fun v σ' => A v σ' ∧ ∀ i, S i → σ' i = (0, .dead) := by
  refine ⟨h.1, fun Y T G w vals hI hy ht hr => (h.2 Y T G w vals hI hy ht hr).mono ?_⟩
  rintro e w' ⟨v, av, σ', G', T', h1, h2, h3, h4, h5, h6, h7, h8, h9⟩
  refine ⟨v, av, σ', G', T', h1, h2, h3, ⟨h4, fun i hi => ?_⟩, h5, h6, h7, h8, h9⟩
  obtain ⟨k1, k2, k3⟩ := hS i hi
  rw [h8 i (Ne.symm k2) (by rintro ⟨c, hc⟩; rw [k1] at hc; cases hc) k3]; exact k1

theorem ACall.frame {f : Nat} {l : List AV} {σ : Sig} {d i g : Nat} {z : List AV} {A : AV → Sig → Prop} (h0 : σ i = (0, .dead)) (hd : d ≠ i) (hiy : i < YS) (hz : z ≠ []) (h : ACall P f l σ d A) :
    ACall P f l (newS σ i g z) d fun v σ' => ∃ σ'', σ' = newS σ'' i g z ∧ σ'' i = (0, .dead) ∧ A v σ'' := by
  refine ⟨h.1, fun Y T G w vals hI hy ht hr => ?_⟩
  have hni : ∀ j, j ≠ i → newS σ i g z j = σ j := fun j hj => by rw [newS, upd_eq, if_neg hj]
  have hi : newS σ i g z i = (g, .row z) := by rw [newS, upd_eq, if_pos rfl]
  have hσ : σ = upd (newS σ i g z) i (0, .dead) := by
    funext j; rw [upd_eq]; split
    · subst j; exact h0
    · rw [hni j (by assumption)]
  have hI0 : Inv G σ w := by rw [hσ]; exact hI.kill i 0
  have notlive : ¬ live σ i := by rintro ⟨c, hc⟩; rw [h0] at hc; cases hc
  have hF : ∀ b, Foot G σ b → Foot G (newS σ i g z) b := by
    rintro b ⟨j, x, hj, hm⟩
    have hji : j ≠ i := by rintro rfl; exact notlive hj
    exact ⟨j, x, by unfold live; rw [hni j hji]; exact hj, by rw [hni j hji]; exact hm⟩
  refine (h.2 Y T G w vals hI0 (hy.same (.inl (by rw [hni YS (Ne.symm (Nat.ne_of_lt hiy))]))) (fun b hb => ht b (hF b hb)) hr).mono ?_
  rintro e w' ⟨v, av, σ', G', T', h1, h2, h3, h4, h5, h6, h7, h8, h9, h10, h11⟩
  have h0' : σ' i = (0, .dead) := by rw [h8 i (Ne.symm hd) notlive hiy]; exact h0
  have hni' : ∀ j, j ≠ i → newS σ' i g z j = σ' j := fun j hj => by rw [newS, upd_eq, if_neg hj]
  have hi' : newS σ' i g z i = (g, .row z) := by rw [newS, upd_eq, if_pos rfl]
  have live_i : live (newS σ i g z) i := ⟨z, by rw [hi]⟩
  obtain ⟨b0, e0, lim0, vals0, T0, hR⟩ : ∃ b e lim vals T, ResOK G w i g z b e lim vals T := by
    rcases hI.res i z (by rw [hi]) with ⟨hz', _⟩ | hR
    · exact absurd hz' hz
    · rw [hi] at hR; exact hR
  have hmi : G.m i (newS σ i g z i).1 = some (b0, e0, lim0) := by rw [hi]; exact hR.m
  have hb0 : b0 < w.heap.size := (Array.getElem?_eq_some_iff.1 hR.obj).1
  have hnf : ¬ Foot G σ b0 := by
    rintro ⟨j, x, hj, hm⟩
    have hji : j ≠ i := by rintro rfl; exact notlive hj
    exact hI.dist j i b0 x _ hji (by unfold live; rw [hni j hji]; exact hj) live_i (by rw [hni j hji]; exact hm) hmi
  have hnT : ¬ T b0 := ht b0 ⟨i, _, live_i, hmi⟩
  have hnx : ¬ (Foot G σ b0 ∨ T b0) := fun h => h.elim hnf hnT
  have hnf' : ¬ Foot G' σ' b0 := fun hf => (h7 b0 hf).elim hnf (by omega)
  refine ⟨v, av, newS σ' i g z, G', T', h1, ⟨h2.kok, fun j c' hj => ?_, h2.fresh, fun j k b x y hjk hj hk hx hy => ?_⟩, h3, ⟨σ', rfl, h0', h4⟩, h5,
    ⟨h6.os, h6.tape, h6.output, h6.size, fun b hb hn => h6.block b hb fun hf => hn (hf.imp (hF b) id), h6.le, fun b hb hn => h6.Kb b hb fun hf => hn (hf.imp (hF b) id)⟩, fun b hf => ?_, fun j hj hl hjy => ?_, h9.same (.inl (by rw [hni' YS (Ne.symm (Nat.ne_of_lt hiy))])), fun b hf hT => ?_, h11⟩
  · by_cases hji : j = i
    · subst hji
      rw [hi'] at hj ⊢
      cases hj
      refine .inr ⟨b0, e0, lim0, vals0, T0, ⟨h5.m _ _ _ hR.m, by rw [h6.block b0 hb0 hnx]; exact hR.obj, hR.fit, hR.lim, fun o ho => ?_, fun q a hq => ?_⟩⟩
      · rw [h6.Kb b0 hb0 hnx]; exact hR.K o ho
      · obtain ⟨x, hx, hrel⟩ := hR.rel q a hq
        exact ⟨x, hx, hrel.mono h5⟩
    · rw [hni' j hji] at hj ⊢; exact h2.res j c' hj
  · have key : ∀ j, j ≠ i → live (newS σ' i g z) j → ∀ b x, G'.m j (newS σ' i g z j).1 = some (b, x) → live σ' j ∧ G'.m j (σ' j).1 = some (b, x) := by
      intro j hj hl b x hx
      unfold live at hl ⊢
      rw [hni' j hj] at hl hx; exact ⟨hl, hx⟩
    have keyi : ∀ b x, G'.m i (newS σ' i g z i).1 = some (b, x) → b = b0 := by
      intro b x hx
      rw [hi'] at hx
      have := h5.m _ _ _ hR.m
      simp only at hx; rw [this] at hx; cases hx; rfl
    by_cases hji : j = i
    · subst hji
      obtain rfl := keyi _ _ hx
      obtain ⟨l1, l2⟩ := key k (Ne.symm hjk) hk _ _ hy
      exact hnf' ⟨k, y, l1, l2⟩
    · obtain ⟨l1, l2⟩ := key j hji hj _ _ hx
      by_cases hki : k = i
      · subst hki
        obtain rfl := keyi _ _ hy
        exact hnf' ⟨j, x, l1, l2⟩
      · obtain ⟨l3, l4⟩ := key k hki hk _ _ hy
        exact h2.dist j k b x y hjk l1 l3 l2 l4
  · obtain ⟨j, x, hj, hm⟩ := hf
    by_cases hji : j = i
    · subst hji
      rw [hi'] at hm
      have := h5.m _ _ _ hR.m
      simp only at hm; rw [this] at hm; cases hm
      exact .inl ⟨j, _, live_i, hmi⟩
    · unfold live at hj
      rw [hni' j hji] at hj hm
      exact (h7 b ⟨j, x, hj, hm⟩).imp (hF b) id
  · have hji : j ≠ i := by rintro rfl; exact hl live_i
    rw [hni j hji, hni' j hji]
    refine h8 j hj ?_ hjy
    unfold live at hl ⊢; rw [hni j hji] at hl; exact hl
  · obtain ⟨j, x, hj, hm⟩ := hf
    by_cases hji : j = i
    · subst hji
      rw [hi'] at hm
      have := h5.m _ _ _ hR.m
      simp only at hm; rw [this] at hm; cases hm
      exact (h11 _ hT).elim hnT (by omega)
    · unfold live at hj
      rw [hni' j hji] at hj hm
      exact h10 b ⟨j, x, hj, hm⟩ hT

/-- An effect leaves dead resources dead. -/
theorem E_dead {op : IOp} {d : Nat} {e : Nat → AV} {σ : Sig} {A : AV → Sig → Prop} {S : Nat → Prop} (hS : ∀ i, S i → σ i = (0, .dead) ∧ siteOK d i op = true) (hc : op.cls = .e) (h : stepW P d op e σ A) :
    (∃ i, S i) → stepW P d op e σ (fun v σ' => A v σ' ∧ ∀ i, S i → σ' i = (0, .dead)) := by
  rintro ⟨i0, hi0⟩
  have det : (∀ f a, op ≠ .callF f a) → (∀ f a, op ≠ .callV f a) → detW (effO d op e σ) A → detW (effO d op e σ) (fun v σ' => A v σ' ∧ ∀ i, S i → σ' i = (0, .dead)) := by
    intro hf hv h1 g
    have h1 := h1 g
    revert h1
    split
    · rename_i p v σ' he
      exact fun h => ⟨h.1, h.2, fun i hi => (eff_dead (hS i hi).2 (hS i hi).1 he hf hv).1⟩
    · exact id
  have hs0 := (hS i0 hi0).2
  cases op <;> simp only [siteOK] at hs0 <;> first | (cases hs0; done) | skip
  · exact det (by simp) (by simp) h
  · exact det (by simp) (by simp) h
  · exact det (by simp) (by simp) h
  · rename_i f args
    have h' : argW (evO e args) (fun l => ACall P f l σ d A) := h
    show argW (evO e args) (fun l => ACall P f l σ d _)
    cases hl : evO e args with
    | none => rw [hl] at h'; exact h'
    | some l => rw [hl] at h'; exact ACall.dead (fun i hi => ⟨(hS i hi).1, (siteC (hS i hi).2).1, (siteC (hS i hi).2).2⟩) h'
  · rename_i x args
    have h' : argW (evO e args) (fun l => callVW P (x.ev e) l σ d A) := h
    show argW (evO e args) (fun l => callVW P (x.ev e) l σ d _)
    cases hl : evO e args with
    | none => rw [hl] at h'; exact h'
    | some l =>
      rw [hl] at h'
      have h2 : callVW P (x.ev e) l σ d A := h'
      show callVW P (x.ev e) l σ d _
      generalize x.ev e = y at h2 ⊢
      cases y <;> try (exact h2)
      rename_i fn a b
      cases fn <;> try (exact h2)
      · exact ACall.dead (fun i hi => ⟨(hS i hi).1, (siteC (hS i hi).2).1, (siteC (hS i hi).2).2⟩) h2
      · rename_i yl
        cases a <;> cases b <;> try (exact h2)
        unfold callVW at h2 ⊢
        simp only at h2 ⊢
        split at h2
        · refine ⟨h2.1, h2.2.1, fun b => ⟨h2.2.2 b, fun i hi => ?_⟩⟩
          rw [upd_eq, if_neg (Nat.ne_of_lt (siteC (hS i hi).2).2)]; exact (hS i hi).1
        · exact h2

/-- An effect with one resource more in the heap. -/
theorem E_frame {op : IOp} {d i g : Nat} {z : List AV} {e : Nat → AV} {σ : Sig} {A : AV → Sig → Prop} (h0 : σ i = (0, .dead)) (hs : siteOK d i op = true) (hz : z ≠ []) (h : stepW P d op e σ A) :
    stepW P d op e (newS σ i g z) (fun v σ' => ∃ σ'', σ' = newS σ'' i g z ∧ σ'' i = (0, .dead) ∧ A v σ'') := by
  have det : (∀ f a, op ≠ .callF f a) → (∀ f a, op ≠ .callV f a) → detW (effO d op e σ) A → detW (effO d op e (newS σ i g z)) (fun v σ' => ∃ σ'', σ' = newS σ'' i g z ∧ σ'' i = (0, .dead) ∧ A v σ'') := by
    intro hf hv h1 γ
    have h1 := h1 γ
    revert h1
    split
    · rename_i p v σ' he
      intro h
      obtain ⟨k1, k2⟩ := eff_dead hs h0 he hf hv
      rw [k2]
      exact ⟨h.1, σ', rfl, k1, h.2⟩
    · exact False.elim
  have hs0 := hs
  cases op <;> simp only [siteOK] at hs0 <;> first | (cases hs0; done) | skip
  · exact det (by simp) (by simp) h
  · exact det (by simp) (by simp) h
  · exact det (by simp) (by simp) h
  · rename_i f args
    have h' : argW (evO e args) (fun l => ACall P f l σ d A) := h
    show argW (evO e args) (fun l => ACall P f l (newS σ i g z) d _)
    cases hl : evO e args with
    | none => rw [hl] at h'; exact h'
    | some l => rw [hl] at h'; exact ACall.frame h0 (siteC hs0).1 (siteC hs0).2 hz h'
  · rename_i x args
    have h' : argW (evO e args) (fun l => callVW P (x.ev e) l σ d A) := h
    show argW (evO e args) (fun l => callVW P (x.ev e) l (newS σ i g z) d _)
    cases hl : evO e args with
    | none => rw [hl] at h'; exact h'
    | some l =>
      rw [hl] at h'
      have h2 : callVW P (x.ev e) l σ d A := h'
      show callVW P (x.ev e) l (newS σ i g z) d _
      generalize x.ev e = y at h2 ⊢
      cases y <;> try (exact h2)
      rename_i fn a b
      cases fn <;> try (exact h2)
      · exact ACall.frame h0 (siteC hs0).1 (siteC hs0).2 hz h2
      · rename_i yl
        cases a <;> cases b <;> try (exact h2)
        have hiy := Nat.ne_of_lt (siteC hs0).2
        have hny : newS σ i g z YS = σ YS := by rw [newS, upd_eq, if_neg (Ne.symm hiy)]
        unfold callVW at h2 ⊢
        simp only [hny] at h2 ⊢
        split at h2
        · refine ⟨h2.1, h2.2.1, fun b => ⟨_, newS_upd hiy, ?_, h2.2.2 b⟩⟩
          rw [upd_eq, if_neg hiy]; exact h0
        · exact h2

theorem wp_dead {s : IStep} {e : Nat → AV} {σ : Sig} {K : (Nat → AV) → Sig → Prop} {S : Nat → Prop} (hS : ∀ i, S i → σ i = (0, .dead) ∧ keeps s i = true) (h : s.wp P K e σ) :
    s.wp P (fun e' σ' => K e' σ' ∧ ∀ i, S i → σ' i = (0, .dead)) e σ := by
  by_cases hex : ∃ i, S i
  case neg => exact s.mono h fun e' σ' hk => ⟨hk, fun i hi => absurd ⟨i, hi⟩ hex⟩
  cases hc : s.op.cls with
  | v =>
    obtain ⟨p, v, hnf⟩ := NFl (P := P) (s := s) (.inl hc) e σ
    rw [hnf e Agree.refl] at h ⊢
    exact ⟨h.1, h.2, fun i hi => (hS i hi).1⟩
  | l =>
    obtain ⟨p, v, hnf⟩ := NFl (P := P) (s := s) (.inr hc) e σ
    rw [hnf e Agree.refl] at h ⊢
    exact ⟨h.1, h.2, fun i hi => (hS i hi).1⟩
  | n =>
    rcases NFn (P := P) hc e with ⟨p, hnf⟩ | ⟨p, val, z, hnf⟩
    · rw [hnf e Agree.refl] at h ⊢
      exact ⟨h.1, h.2, fun i hi => (hS i hi).1⟩
    · rw [hnf e Agree.refl] at h ⊢
      refine fun g => ⟨(h g).1, (h g).2, fun i hi => ?_⟩
      obtain ⟨h1, h2⟩ := hS i hi
      simp only [keeps, hc] at h2
      rw [newS, upd_eq, if_neg (Ne.symm (beq_ne h2))]; exact h1
  | e =>
    have hS' : ∀ i, S i → σ i = (0, .dead) ∧ siteOK (s.dst.getD 0) i s.op = true := fun i hi => by
      obtain ⟨h1, h2⟩ := hS i hi
      simp only [keeps, hc] at h2
      exact ⟨h1, h2⟩
    obtain ⟨d, g, op⟩ := s
    cases g with
    | none => exact step_xfer Agree.refl (fun v σ' hk => hk) (E_dead hS' hc h hex)
    | some gb =>
      obtain ⟨g, b⟩ := gb
      have h' : guardW (e g) b (stepW P (d.getD 0) op e σ (contS e d K)) (K (putE e d (.tup [])) σ) := h
      show guardW (e g) b (stepW P (d.getD 0) op e σ _) (_ ∧ _)
      unfold guardW at *
      split
      · rename_i cv hcv; rw [hcv] at h'; simp only at h'
        split
        · rw [if_pos (by assumption)] at h'
          exact step_xfer Agree.refl (fun v σ' hk => hk) (E_dead hS' hc h' hex)
        · rw [if_neg (by assumption)] at h'; exact ⟨h', fun i hi => (hS i hi).1⟩
      · rename_i hcv; rw [hcv] at h'; exact ⟨h', fun i hi => (hS i hi).1⟩
      · rename_i hn hn2
        revert h'; split
        · rename_i cv hcv; exact absurd hcv (hn _)
        · rename_i hcv; exact absurd hcv hn2
        · exact False.elim

/-! the walk of an order, by its steps -/
def CHs (T : List Nat) (seen : List DS) (x : DS) (e : Nat → AV) (σ : Sig) : Prop := x.st.op.cls = .e → ∀ l ∈ seen, anc T l.i x.i = false → CH l.st e σ
def DW (P : Program) (T : List Nat) (K : (Nat → AV) → Sig → Prop) (seen : List DS) : List DS → (Nat → AV) → Sig → Prop
  | [], e, σ => K e σ
  | x :: r, e, σ => x.st.wp P (fun e σ => CHs T seen x e σ ∧ DW P T K (seen ++ [x]) r e σ) e σ

theorem chks_ok {T : List Nat} {x : DS} {K : (Nat → AV) → Sig → Prop} {e : Nat → AV} {σ : Sig} : ∀ {seen : List DS} {r : List IStep}, stepsW P (chks T x seen ++ r) K e σ → (∀ l ∈ seen, anc T l.i x.i = false → CH l.st e σ) ∧ stepsW P r K e σ
  | [], r, h => ⟨fun l hl => (by cases hl), h⟩
  | l :: seen, r, h => by
    simp only [chks] at h
    split at h
    · rename_i ha
      obtain ⟨h1, h2⟩ := chks_ok h
      refine ⟨fun m hm hn => ?_, h2⟩
      rcases List.mem_cons.1 hm with rfl | hm
      · rw [ha] at hn; cases hn
      · exact h1 m hm hn
    · split at h
      · rename_i s hs
        obtain ⟨h0, h⟩ := chk_steps hs h
        obtain ⟨h1, h2⟩ := chks_ok h
        refine ⟨fun m hm hn => ?_, h2⟩
        rcases List.mem_cons.1 hm with rfl | hm
        · exact h0
        · exact h1 m hm hn
      · rename_i hs
        obtain ⟨h1, h2⟩ := chks_ok h
        refine ⟨fun m hm hn => ?_, h2⟩
        rcases List.mem_cons.1 hm with rfl | hm
        · exact CH_none hs _ _
        · exact h1 m hm hn

theorem emit_DW {T : List Nat} {K : (Nat → AV) → Sig → Prop} : ∀ {τ seen : List DS} {e : Nat → AV} {σ : Sig}, stepsW P (emit T seen τ) K e σ → DW P T K seen τ e σ
  | [], _, _, _, h => h
  | x :: r, seen, e, σ, h => by
    simp only [emit] at h
    refine IStep.mono (s := x.st) h fun e' σ' hk => ?_
    by_cases hE : x.st.op.cls = .e
    · have : isE x.st = true := by unfold isE; rw [hE]
      rw [this, if_pos rfl] at hk
      obtain ⟨h1, h2⟩ := chks_ok hk
      exact ⟨fun _ => h1, emit_DW h2⟩
    · have : isE x.st = false := by unfold isE; split <;> first | (rename_i h; exact absurd h hE) | rfl
      rw [this, if_neg (by simp)] at hk
      exact ⟨fun h => absurd h hE, emit_DW hk⟩

theorem CHs_mono {T : List Nat} {seen seen' : List DS} {x : DS} {e : Nat → AV} {σ : Sig} (hs : ∀ l ∈ seen', l ∈ seen) (h : CHs T seen x e σ) : CHs T seen' x e σ := fun hE l hl hn => h hE l (hs l hl) hn
theorem DW_mono {T : List Nat} {K : (Nat → AV) → Sig → Prop} : ∀ {τ seen seen' : List DS} {e : Nat → AV} {σ : Sig}, (∀ l ∈ seen', l ∈ seen) → DW P T K seen τ e σ → DW P T K seen' τ e σ
  | [], _, _, _, _, _, h => h
  | x :: r, seen, seen', e, σ, hs, h => x.st.mono h fun e' σ' hk => ⟨CHs_mono hs hk.1, DW_mono (fun l hl => by
      rcases List.mem_append.1 hl with h | h
      · exact List.mem_append_left _ (hs l h)
      · exact List.mem_append_right _ h) hk.2⟩

/-- t does not disturb the watch of l. -/
def noW (l t : IStep) : Prop := (chkOf l).isSome = true → noClash l t = true
theorem noClash_iff {s t : IStep} (h : noClash s t = true) : dstIn t s.reads = false ∧ sameDst s t = false := by
  unfold noClash at h; simpa [Bool.and_eq_true] using h
theorem sameDst_comm {s t : IStep} (h : sameDst s t = false) : sameDst t s = false := by
  unfold sameDst at *
  cases hs : s.dst <;> cases ht : t.dst <;> rw [hs, ht] at h <;> simp only at h ⊢
  exact ne_beq fun h' => beqf_ne h h'.symm
theorem CH_put {l t : IStep} {e : Nat → AV} {σ : Sig} {v : AV} (h : noW l t) : CH l (putE e t.dst v) σ ↔ CH l e σ := by
  have key : (chkOf l).isSome = true → Agree l.reads (putE e t.dst v) e ∧ ∀ x, l.dst = some x → putE e t.dst v x = e x := by
    intro hl
    obtain ⟨h1, h2⟩ := noClash_iff (h hl)
    refine ⟨putE_agree h1, fun x hx => ?_⟩
    unfold putE
    cases ht : t.dst with
    | none => rfl
    | some y =>
      unfold sameDst at h2
      rw [hx, ht] at h2
      have : x ≠ y := by rintro rfl; simp at h2
      simp only [upd_eq, if_neg this]
  exact ⟨CH_agree fun hl => ⟨(key hl).1, (key hl).2⟩, CH_agree fun hl => ⟨(key hl).1.symm, fun t ht => ((key hl).2 t ht).symm⟩⟩

/-- a, then x; x may as well come first. -/
theorem swap {T D : List Nat} {a x : DS} {seen : List DS} {M : (Nat → AV) → Sig → Prop} {e : Nat → AV} {σ : Sig}
    (hax : dstIn a.st x.st.reads = false) (hnc : noClash a.st x.st = true) (hgood : goodC D a.st x.st = true) (hun : anc T a.i x.i = false)
    (hwa : ∀ l ∈ seen, noW l.st a.st) (hwx : ∀ l ∈ seen, noW l.st x.st) (hla : a.st.op.cls = .l → a.st.dst.isSome = true ∧ dstIn a.st a.st.reads = false) (hlx : x.st.op.cls = .l → x.st.dst.isSome = true ∧ dstIn x.st x.st.reads = false)
    (hnx : x.st.op.cls = .n → x.st.dst.isSome = true) (hna : a.st.op.cls = .n → a.st.dst.isSome = true)
    (hdead : x.st.op.cls = .n → mem (x.st.dst.getD 0) D = true → σ (x.st.dst.getD 0) = (0, .dead) ∧ keeps a.st (x.st.dst.getD 0) = true)
    (h : a.st.wp P (fun e σ => CHs T seen a e σ ∧ x.st.wp P (fun e σ => CHs T (seen ++ [a]) x e σ ∧ M e σ) e σ) e σ) :
    x.st.wp P (fun e σ => CHs T seen x e σ ∧ a.st.wp P (fun e σ => CHs T seen a e σ ∧ M e σ) e σ) e σ := by
  obtain ⟨hxa, hsd⟩ := noClash_iff hnc
  have triv : ∀ {y : DS} {seen : List DS} {e : Nat → AV} {σ : Sig}, y.st.op.cls ≠ .e → CHs T seen y e σ := fun hy hE => absurd hE hy
  have agx : ∀ v, Agree x.st.reads (putE e a.st.dst v) e := fun v => putE_agree hax
  have aga : ∀ (e : Nat → AV) v, Agree a.st.reads e (putE e x.st.dst v) := fun e v => (putE_agree hxa).symm
  cases ha : a.st.op.cls with
  | v =>
    obtain ⟨p, v, hnf⟩ := NFv (P := P) ha e
    rw [hnf e Agree.refl] at h
    obtain ⟨hp, _, h⟩ := h
    refine x.st.xfer (agx v) (fun u σ' hk => ?_) h
    refine ⟨fun hE l hl hn => ?_, ?_⟩
    · have := hk.1 hE l (List.mem_append_left _ hl) hn
      rw [putE_comm hsd] at this
      rwa [CH_put (hwa l hl)] at this
    · rw [hnf _ (aga e u)]
      refine ⟨hp, triv (by rw [ha]; simp), ?_⟩
      rw [← putE_comm hsd]; exact hk.2
  | l =>
    obtain ⟨hd1, hd2⟩ := hla ha
    obtain ⟨t, g, sz, agg, y, hs⟩ := isL_inv ha hd1
    have hdst : a.st.dst = some t := by rw [hs]
    obtain ⟨v, h, hch, hback⟩ := NFL hs hd2 h
    have hput : ∀ e, upd e t v = putE e a.st.dst v := fun e => by rw [hdst]; rfl
    rw [hput] at h hch
    simp only [hput] at hback
    have h2 := h.2
    have finv : x.st.op.cls = .v ∨ x.st.op.cls = .l → x.st.wp P (fun e σ => CHs T seen x e σ ∧ a.st.wp P (fun e σ => CHs T seen a e σ ∧ M e σ) e σ) e σ := by
      intro hx
      obtain ⟨p, u, hnf⟩ := NFl (P := P) hx (putE e a.st.dst v) σ
      rw [hnf _ Agree.refl] at h2
      rw [hnf e (agx v)]
      obtain ⟨hp, _, h2⟩ := h2
      refine ⟨hp, triv (by rcases hx with h | h <;> rw [h] <;> simp), hback _ _ _ (aga e u) ?_ ⟨triv (by rw [ha]; simp), ?_⟩⟩
      · rw [← putE_comm hsd]
        exact (CH_put (fun _ => hnc)).2 hch
      · rw [← putE_comm hsd]; exact h2
    cases hx : x.st.op.cls with
    | v => exact finv (.inl hx)
    | l => exact finv (.inr hx)
    | n =>
      have hD : mem (x.st.dst.getD 0) D = true := by unfold goodC at hgood; rw [ha, hx] at hgood; exact hgood
      obtain ⟨hd0, _⟩ := hdead hx hD
      rcases NFn (P := P) hx (putE e a.st.dst v) with ⟨p, hnf⟩ | ⟨p, val, z, hnf⟩
      · rw [hnf _ Agree.refl] at h2
        rw [hnf e (agx v)]
        obtain ⟨hp, _, h2⟩ := h2
        refine ⟨hp, triv (by rw [hx]; simp), hback _ _ _ (aga e _) ?_ ⟨triv (by rw [ha]; simp), ?_⟩⟩
        · rw [← putE_comm hsd]
          exact (CH_put (fun _ => hnc)).2 hch
        · rw [← putE_comm hsd]; exact h2
      · rw [hnf _ Agree.refl] at h2
        rw [hnf e (agx v)]
        intro g
        obtain ⟨hp, _, h2⟩ := h2 g
        refine ⟨hp, triv (by rw [hx]; simp), hback _ _ _ (aga e _) ?_ ⟨triv (by rw [ha]; simp), ?_⟩⟩
        · rw [← putE_comm hsd]
          exact CH_new hd0 ((CH_put (fun _ => hnc)).2 hch)
        · rw [← putE_comm hsd]; exact h2
    | e =>
      refine x.st.xfer (agx v) (fun u σ' hk => ?_) h2
      have hCa : CH a.st (putE (putE e x.st.dst u) a.st.dst v) σ' := by
        rw [← putE_comm hsd]
        exact hk.1 hx a (by simp) hun
      refine ⟨fun hE l hl hn => ?_, hback _ _ _ (aga e u) hCa ⟨triv (by rw [ha]; simp), ?_⟩⟩
      · have := hk.1 hE l (List.mem_append_left _ hl) hn
        rw [putE_comm hsd] at this
        rwa [CH_put (hwa l hl)] at this
      · rw [← putE_comm hsd]; exact hk.2
  | n =>
    rcases NFn (P := P) ha e with ⟨p, hnf⟩ | ⟨p, val, z, hnf⟩
    · -- passed over: as a value
      rw [hnf e Agree.refl] at h
      obtain ⟨hp, _, h⟩ := h
      refine x.st.xfer (agx (.tup [])) (fun u σ' hk => ?_) h
      refine ⟨fun hE l hl hn => ?_, ?_⟩
      · have := hk.1 hE l (List.mem_append_left _ hl) hn
        rw [putE_comm hsd] at this
        rwa [CH_put (hwa l hl)] at this
      · rw [hnf _ (aga e u)]
        refine ⟨hp, triv (by rw [ha]; simp), ?_⟩
        rw [← putE_comm hsd]; exact hk.2
    · rw [hnf e Agree.refl] at h
      cases hx : x.st.op.cls with
      | v =>
        obtain ⟨q, u, hnx⟩ := NFv (P := P) hx e
        have h' : ∀ g, p ∧ q ∧ M (putE (putE e a.st.dst (val g)) x.st.dst u) (newS σ (a.st.dst.getD 0) g z) := fun g => by
          obtain ⟨hp, _, h⟩ := h g
          rw [hnx _ (agx _).symm] at h
          exact ⟨hp, h.1, h.2.2⟩
        rw [hnx e Agree.refl]
        refine ⟨(h' 0).2.1, triv (by rw [hx]; simp), ?_⟩
        rw [hnf _ (aga e u)]
        refine fun g => ⟨(h' g).1, triv (by rw [ha]; simp), ?_⟩
        rw [← putE_comm hsd]; exact (h' g).2.2
      | l =>
        obtain ⟨hd1, hd2⟩ := hlx hx
        obtain ⟨t, g0, sz, agg, y, hs⟩ := isL_inv hx hd1
        have hdst : x.st.dst = some t := by rw [hs]
        have hput : ∀ e v, upd e t v = putE e x.st.dst v := fun e v => by rw [hdst]; rfl
        -- a normal form that is the same for all generations
        have same : ∃ q u, (∀ K, x.st.wp P K e σ ↔ (q ∧ K (putE e x.st.dst u) σ)) ∧ ∀ g K, x.st.wp P K (putE e a.st.dst (val g)) (newS σ (a.st.dst.getD 0) g z) ↔ (q ∧ K (putE (putE e a.st.dst (val g)) x.st.dst u) (newS σ (a.st.dst.getD 0) g z)) := by
          have hv : ∀ g, valO (.ld sz agg y) (putE e a.st.dst (val g)) (newS σ (a.st.dst.getD 0) g z) = ldO sz agg (newS σ (a.st.dst.getD 0) g z) (y.ev e) := by
            intro g
            simp only [valO]
            rw [ev_agree (x := y) (e := putE e a.st.dst (val g)) (e' := e) fun k hk => agx _ k (by rw [hs]; cases g0 <;> simp [IStep.reads, IOp.reads, hk])]
          have exec : (∀ g, ∃ p v, ldO sz agg (newS σ (a.st.dst.getD 0) g z) (y.ev e) = some (p, v) ∧ p) → ∃ q u, (∀ d K, stepW P d (.ld sz agg y) e σ K ↔ (q ∧ K u σ)) ∧ ∀ g d K, stepW P d (.ld sz agg y) (putE e a.st.dst (val g)) (newS σ (a.st.dst.getD 0) g z) K ↔ (q ∧ K u (newS σ (a.st.dst.getD 0) g z)) := by
            intro hall
            have heq := newS_all hall
            obtain ⟨q, u, h1, _⟩ := hall 0
            rw [heq] at h1
            refine ⟨q, u, fun d K => ?_, fun g d K => ?_⟩
            · rw [isV_det (.inr rfl)]; simp only [valO]; rw [h1]
            · rw [isV_det (.inr rfl), hv, heq, h1]
          cases g0 with
          | none =>
            have hall : ∀ g, ∃ p v, ldO sz agg (newS σ (a.st.dst.getD 0) g z) (y.ev e) = some (p, v) ∧ p := by
              intro g
              have h1 := (h g).2.2
              rw [hs] at h1
              have h1 : stepW P t (.ld sz agg y) (putE e a.st.dst (val g)) (newS σ (a.st.dst.getD 0) g z) (contS _ (some t) _) := h1
              rw [isV_det (.inr rfl), hv] at h1
              cases hl : ldO sz agg (newS σ (a.st.dst.getD 0) g z) (y.ev e) with
              | none => rw [hl] at h1; exact h1.elim
              | some pv => rw [hl] at h1; exact ⟨pv.1, pv.2, rfl, h1.1⟩
            obtain ⟨q, u, k1, k2⟩ := exec hall
            rw [hs]
            exact ⟨q, u, fun K => k1 t _, fun g K => k2 g t _⟩
          | some gb =>
            obtain ⟨g1, b⟩ := gb
            have hg1 : ∀ g, putE e a.st.dst (val g) g1 = e g1 := fun g => agx _ g1 (by rw [hs]; simp [IStep.reads])
            have red : ∀ e' σ' K', IStep.wp P ⟨some t, some (g1, b), .ld sz agg y⟩ K' e' σ' = guardW (e' g1) b (stepW P t (.ld sz agg y) e' σ' (contS e' (some t) K')) (K' (upd e' t (.tup [])) σ') := fun _ _ _ => rfl
            cases hc : e g1 with
            | bool cv =>
              by_cases hb : cv = b
              · have hall : ∀ g, ∃ p v, ldO sz agg (newS σ (a.st.dst.getD 0) g z) (y.ev e) = some (p, v) ∧ p := by
                  intro g
                  have h1 := (h g).2.2
                  rw [hs, red, hg1, hc] at h1
                  simp only [guardW, if_pos hb] at h1
                  rw [isV_det (.inr rfl), hv] at h1
                  cases hl : ldO sz agg (newS σ (a.st.dst.getD 0) g z) (y.ev e) with
                  | none => rw [hl] at h1; exact h1.elim
                  | some pv => rw [hl] at h1; exact ⟨pv.1, pv.2, rfl, h1.1⟩
                obtain ⟨q, u, k1, k2⟩ := exec hall
                rw [hs]
                refine ⟨q, u, fun K => ?_, fun g K => ?_⟩
                · rw [red, hc]; simp only [guardW, if_pos hb]; exact k1 t _
                · rw [red, hg1, hc]; simp only [guardW, if_pos hb]; exact k2 g t _
              · rw [hs]
                refine ⟨True, .tup [], fun K => ?_, fun g K => ?_⟩
                · rw [red, hc]; simp only [guardW, if_neg hb, true_and]; rfl
                · rw [red, hg1, hc]; simp only [guardW, if_neg hb, true_and]; rfl
            | tup l =>
              cases l with
              | nil =>
                rw [hs]
                refine ⟨True, .tup [], fun K => ?_, fun g K => ?_⟩
                · rw [red, hc]; simp only [guardW, true_and]; rfl
                · rw [red, hg1, hc]; simp only [guardW, true_and]; rfl
              | cons _ _ =>
                have h1 := (h 0).2.2
                rw [hs, red, hg1, hc] at h1
                exact h1.elim
            | _ =>
              have h1 := (h 0).2.2
              rw [hs, red, hg1, hc] at h1
              exact h1.elim
        obtain ⟨q, u, k1, k2⟩ := same
        rw [k1]
        have h' : ∀ g, p ∧ q ∧ M (putE (putE e a.st.dst (val g)) x.st.dst u) (newS σ (a.st.dst.getD 0) g z) := fun g => by
          obtain ⟨hp, _, h⟩ := h g
          rw [k2] at h
          exact ⟨hp, h.1, h.2.2⟩
        refine ⟨(h' 0).2.1, triv (by rw [hx]; simp), ?_⟩
        rw [hnf _ (aga e u)]
        refine fun g => ⟨(h' g).1, triv (by rw [ha]; simp), ?_⟩
        rw [← putE_comm hsd]; exact (h' g).2.2
      | n =>
        rcases NFn (P := P) hx e with ⟨q, hnfx⟩ | ⟨q, val', z', hnfx⟩
        · have h' : ∀ g, p ∧ q ∧ M (putE (putE e a.st.dst (val g)) x.st.dst (.tup [])) (newS σ (a.st.dst.getD 0) g z) := fun g => by
            obtain ⟨hp, _, h⟩ := h g
            rw [hnfx _ (agx _).symm] at h
            exact ⟨hp, h.1, h.2.2⟩
          rw [hnfx e Agree.refl]
          refine ⟨(h' 0).2.1, triv (by rw [hx]; simp), ?_⟩
          rw [hnf _ (aga e _)]
          refine fun g => ⟨(h' g).1, triv (by rw [ha]; simp), ?_⟩
          rw [← putE_comm hsd]; exact (h' g).2.2
        · have hdd : x.st.dst.getD 0 ≠ a.st.dst.getD 0 := by
            have h1 := hnx hx
            have h2 := hna ha
            unfold sameDst at hsd
            cases hxd : x.st.dst with
            | none => rw [hxd] at h1; cases h1
            | some xd =>
              cases had : a.st.dst with
              | none => rw [had] at h2; cases h2
              | some ad =>
                rw [hxd, had] at hsd
                rintro hh; simp only [Option.getD_some] at hh hsd; exact beqf_ne hsd hh.symm
          have h' : ∀ g g', p ∧ q ∧ M (putE (putE e a.st.dst (val g)) x.st.dst (val' g')) (newS (newS σ (a.st.dst.getD 0) g z) (x.st.dst.getD 0) g' z') := fun g g' => by
            obtain ⟨hp, _, h⟩ := h g
            rw [hnfx _ (agx _).symm] at h
            exact ⟨hp, (h g').1, (h g').2.2⟩
          rw [hnfx e Agree.refl]
          refine fun g' => ⟨(h' 0 0).2.1, triv (by rw [hx]; simp), ?_⟩
          rw [hnf _ (aga e _)]
          refine fun g => ⟨(h' g g').1, triv (by rw [ha]; simp), ?_⟩
          rw [← putE_comm hsd, newS_comm hdd]; exact (h' g g').2.2
      | e => unfold goodC at hgood; rw [ha, hx] at hgood; cases hgood
  | e =>
    have hx : x.st.op.cls = .n := by
      cases hx : x.st.op.cls <;> unfold goodC at hgood <;> rw [ha, hx] at hgood <;> first | rfl | cases hgood
    have hg := hgood
    unfold goodC at hg
    rw [ha, hx] at hg
    simp only [Bool.and_eq_true] at hg
    obtain ⟨⟨hD, hgn⟩, hnew⟩ := hg
    obtain ⟨hd0, hkeep⟩ := hdead hx hD
    obtain ⟨zc, zr, hop⟩ : ∃ zc zr, x.st.op = .new (zc :: zr) := by
      split at hnew
      · rename_i a b hh; exact ⟨a, b, hh⟩
      · cases hnew
    have hxg : x.st.g = none := by cases hh : x.st.g with
      | none => rfl
      | some _ => rw [hh] at hgn; cases hgn
    have hxs : x.st = ⟨x.st.dst, none, .new (zc :: zr)⟩ := by rw [← hop, ← hxg]
    have hsite : siteOK (a.st.dst.getD 0) (x.st.dst.getD 0) a.st.op = true := by simpa only [keeps, ha] using hkeep
    have xwp : ∀ (e : Nat → AV) σ K, x.st.wp P K e σ ↔ ∀ g, K (putE e x.st.dst (.ref (x.st.dst.getD 0) g 0)) (newS σ (x.st.dst.getD 0) g (zc :: zr)) := by
      intro e σ K
      have e1 : x.st.wp P K e σ ↔ detW (effO (x.st.dst.getD 0) (.new (zc :: zr)) e σ) (contS e x.st.dst K) := by
        rw [hxs]; exact Iff.rfl
      rw [e1]
      exact ⟨fun h g => (h g).2, fun h g => ⟨trivial, h g⟩⟩
    rw [xwp]
    intro g
    refine ⟨triv (by rw [hx]; simp), ?_⟩
    generalize hdx : x.st.dst.getD 0 = dx at *
    -- the effect, with the new resource there already
    have fin : ∀ v σ'', σ'' dx = (0, .dead) → (CHs T seen a (putE e a.st.dst v) σ'' ∧ x.st.wp P (fun e σ => CHs T (seen ++ [a]) x e σ ∧ M e σ) (putE e a.st.dst v) σ'') →
        CHs T seen a (putE (putE e x.st.dst (.ref dx g 0)) a.st.dst v) (newS σ'' dx g (zc :: zr)) ∧ M (putE (putE e x.st.dst (.ref dx g 0)) a.st.dst v) (newS σ'' dx g (zc :: zr)) := by
      rintro v σ'' hd'' ⟨k1, k2⟩
      rw [xwp] at k2
      have k2 := (k2 g).2
      rw [← putE_comm hsd]
      refine ⟨fun hE l hl hn => ?_, k2⟩
      exact CH_new hd'' ((CH_put (hwx l hl)).2 (k1 hE l hl hn))
    obtain ⟨ai, ad, ag, aop⟩ := a
    simp only at *
    have agop : Agree aop.reads e (putE e x.st.dst (.ref dx g 0)) := fun t ht => aga e _ t (by cases ag <;> simp [IStep.reads, ht])
    cases ag with
    | none =>
      have h1 : stepW P (ad.getD 0) aop e σ (contS e ad _) := h
      refine step_xfer agop ?_ (E_frame (g := g) (z := zc :: zr) hd0 hsite (by simp) h1)
      rintro v σ' ⟨σ'', rfl, k1, k2⟩
      exact fin v σ'' k1 k2
    | some gb =>
      obtain ⟨g1, b⟩ := gb
      have hg1 : putE e x.st.dst (.ref dx g 0) g1 = e g1 := (aga e _ g1 (by simp [IStep.reads])).symm
      have h1 : guardW (e g1) b (stepW P (ad.getD 0) aop e σ (contS e ad _)) (_ ∧ _) := h
      show guardW (putE e x.st.dst (.ref dx g 0) g1) b (stepW P (ad.getD 0) aop _ _ (contS _ ad _)) (_ ∧ _)
      rw [hg1]
      unfold guardW at *
      split
      · rename_i cv hcv; rw [hcv] at h1; simp only at h1
        split
        · rw [if_pos (by assumption)] at h1
          refine step_xfer agop ?_ (E_frame (g := g) (z := zc :: zr) hd0 hsite (by simp) h1)
          rintro v σ' ⟨σ'', rfl, k1, k2⟩
          exact fin v σ'' k1 k2
        · rw [if_neg (by assumption)] at h1
          exact fin (.tup []) σ hd0 h1
      · rename_i hcv; rw [hcv] at h1; exact fin (.tup []) σ hd0 h1
      · rename_i hn hn2
        revert h1; split
        · rename_i cv hcv; exact absurd hcv (hn _)
        · rename_i hcv; exact absurd hcv hn2
        · exact False.elim
end Go.Abs

namespace Go.Abs
variable {P : Program} {c : Ctx P}
theorem mask_bit {T : List Nat} {j : Nat} : ∀ {ps : List Nat}, Nat.testBit (maskOf T ps) j = true → ∃ p ∈ ps, p = j ∨ Nat.testBit (T.getD p 0) j = true
  | [], h => by simp [maskOf] at h
  | p :: r, h => by
    simp only [maskOf, Nat.testBit_or, Bool.or_eq_true] at h
    rcases h with (h | h) | h
    · rw [Nat.testBit_two_pow] at h
      exact ⟨p, by simp, .inl (by simpa using h)⟩
    · exact ⟨p, by simp, .inr h⟩
    · obtain ⟨q, hq, hh⟩ := mask_bit h
      exact ⟨q, by simp [hq], hh⟩
def TOK (ops : Array Oper) (T : List Nat) (k : Nat) : Prop := T.length = k ∧ ∀ i, i < k → ∀ j, Nat.testBit (T.getD i 0) j = true → ∃ p ∈ predsOf ops i, p = j ∨ (p < i ∧ Nat.testBit (T.getD p 0) j = true)
theorem tblGo_ok {ops : Array Oper} : ∀ (m k : Nat) (T : List Nat), TOK ops T k → TOK ops (tblGo ops m k T) (k + m)
  | 0, k, T, h => h
  | m + 1, k, T, h => by
    have := tblGo_ok m (k + 1) (T ++ [maskOf T (predsOf ops k)]) (by
      obtain ⟨h1, h2⟩ := h
      have old : ∀ i, i < k → (T ++ [maskOf T (predsOf ops k)]).getD i 0 = T.getD i 0 := fun i hi => by
        simp only [List.getD_eq_getElem?_getD]; rw [List.getElem?_append_left (by omega)]
      refine ⟨by simp [h1], fun i hi j hj => ?_⟩
      by_cases hik : i < k
      · rw [old i hik] at hj
        obtain ⟨p, hp, hh⟩ := h2 i hik j hj
        refine ⟨p, hp, hh.imp id fun ⟨k1, k2⟩ => ⟨k1, by rw [old p (by omega)]; exact k2⟩⟩
      · have : i = k := by omega
        subst this
        have e : (T ++ [maskOf T (predsOf ops i)]).getD i 0 = maskOf T (predsOf ops i) := by
          simp only [List.getD_eq_getElem?_getD]; rw [List.getElem?_append_right (by omega), h1]; simp
        rw [e] at hj
        obtain ⟨p, hp, hh⟩ := mask_bit hj
        refine ⟨p, hp, hh.imp id fun k2 => ?_⟩
        have hpi : p < i := Decidable.byContradiction fun hn => by
          rw [List.getD_eq_getElem?_getD, List.getElem?_eq_none (by omega)] at k2
          simp at k2
        exact ⟨hpi, by rw [old p hpi]; exact k2⟩)
    simp only [tblGo]
    rw [show k + (m + 1) = k + 1 + m by omega]
    exact this
theorem anc_ok {ops : Array Oper} {L : Nat → Prop} (hL : ∀ i, L i → ∀ p ∈ predsOf ops i, L p) {n : Nat} : ∀ i, (∀ p ∈ predsOf ops i, L p) → ∀ j, anc (tblGo ops n 0 []) j i = true → L j := by
  have hT := tblGo_ok (ops := ops) n 0 [] ⟨rfl, fun i hi => by omega⟩
  rw [Nat.zero_add] at hT
  intro i
  induction i using Nat.strongRecOn with
  | _ i ih =>
    intro hi j hj
    unfold anc at hj
    have hin : i < n := Decidable.byContradiction fun hn => by
      rw [List.getD_eq_getElem?_getD, List.getElem?_eq_none (by rw [hT.1]; omega)] at hj
      simp at hj
    obtain ⟨p, hp, hh⟩ := hT.2 i hin j hj
    rcases hh with rfl | ⟨h1, h2⟩
    · exact hi _ hp
    · exact ih p h1 (hL p (hi p hp)) j h2

theorem isN_iff {s : IStep} : isN s = true ↔ s.op.cls = .n := by
  unfold isN
  cases h : s.op.cls <;> simp
def DeadW (D : List Nat) (τ : List DS) (σ : Sig) : Prop := ∀ y ∈ τ, y.st.op.cls = .n → mem (y.st.dst.getD 0) D = true → σ (y.st.dst.getD 0) = (0, .dead)

theorem pair_keeps {ops : Array Oper} {T D : List Nat} {a y : DS} (h : pairOK ops T D a y = true) (hn : y.st.op.cls = .n) (hD : mem (y.st.dst.getD 0) D = true) : keeps a.st (y.st.dst.getD 0) = true := by
  unfold pairOK at h
  simp only [Bool.and_eq_true] at h
  have := h.1.2
  rw [isN_iff.2 hn, hD] at this
  simpa using this
theorem pair_noW {ops : Array Oper} {T D : List Nat} {a y : DS} (h : pairOK ops T D a y = true) : noW a.st y.st := by
  unfold pairOK at h
  simp only [Bool.and_eq_true] at h
  intro hc
  have := h.1.1.2
  rw [hc] at this
  simpa using this
theorem pair_good {ops : Array Oper} {T D : List Nat} {a y : DS} (h : pairOK ops T D a y = true) (hu : anc T a.i y.i = false) : dstIn a.st y.st.reads = false ∧ noClash a.st y.st = true ∧ goodC D a.st y.st = true := by
  unfold pairOK at h
  simp only [Bool.and_eq_true] at h
  have := h.2
  rw [hu] at this
  simp only [Bool.false_or, Bool.and_eq_true, Bool.not_eq_true'] at this
  exact ⟨this.1, this.2.1, this.2.2⟩
theorem pair_ne {ops : Array Oper} {T D : List Nat} {a y : DS} (h : pairOK ops T D a y = true) : a.i ≠ y.i ∧ y.i ∉ predsOf ops a.i := by
  unfold pairOK at h
  simp only [Bool.and_eq_true, Bool.not_eq_true'] at h
  exact ⟨beqf_ne h.1.1.1.1, fun hm => mem_false h.1.1.1.2 hm rfl⟩
theorem self_l {ops : Array Oper} {a : DS} (h : selfOK ops a = true) (hl : a.st.op.cls = .l) : a.st.dst.isSome = true ∧ dstIn a.st a.st.reads = false := by
  unfold selfOK at h
  rw [hl] at h
  simp only [Bool.and_eq_true, Bool.not_eq_true'] at h
  exact h.2
theorem self_n {ops : Array Oper} {a : DS} (h : selfOK ops a = true) (hl : a.st.op.cls = .n) : a.st.dst.isSome = true := by
  unfold selfOK at h
  rw [hl] at h
  simp only [Bool.and_eq_true] at h
  exact h.2

theorem move {ops : Array Oper} {T D : List Nat} {K : (Nat → AV) → Sig → Prop} {x : DS} {post : List DS} : ∀ {pre seen : List DS} {e : Nat → AV} {σ : Sig},
    (seen ++ (pre ++ x :: post)).Pairwise (fun a b => pairOK ops T D a b = true) → (∀ a ∈ pre ++ x :: post, selfOK ops a = true) → (∀ a ∈ pre, anc T a.i x.i = false) → DeadW D (pre ++ x :: post) σ →
    DW P T K seen (pre ++ x :: post) e σ → x.st.wp P (fun e σ => CHs T seen x e σ ∧ DW P T K seen (pre ++ post) e σ) e σ
  | [], seen, e, σ, _, _, _, _, h => x.st.mono h fun e' σ' hk => ⟨hk.1, DW_mono (fun l hl => List.mem_append_left _ hl) hk.2⟩
  | a :: pre, seen, e, σ, hp, hs, hu, hd, h => by
    have hp' : ((seen ++ [a]) ++ (pre ++ x :: post)).Pairwise (fun a b => pairOK ops T D a b = true) := by simpa using hp
    have hpa : ∀ y ∈ pre ++ x :: post, pairOK ops T D a y = true := by
      rw [List.pairwise_append] at hp'
      exact fun y hy => hp'.2.2 a (by simp) y hy
    have hpl : ∀ l ∈ seen, ∀ y ∈ a :: (pre ++ x :: post), pairOK ops T D l y = true := by
      rw [List.pairwise_append] at hp
      exact fun l hl y hy => hp.2.2 l hl y (by simpa using hy)
    have hax := hpa x (by simp)
    obtain ⟨g1, g2, g3⟩ := pair_good hax (hu a (by simp))
    have h1 : a.st.wp P (fun e σ => CHs T seen a e σ ∧ DW P T K (seen ++ [a]) (pre ++ x :: post) e σ) e σ := h
    have h2 := wp_dead (S := fun i => ∃ y ∈ pre ++ x :: post, y.st.op.cls = .n ∧ mem (y.st.dst.getD 0) D = true ∧ i = y.st.dst.getD 0) (by
      rintro i ⟨y, hy, k1, k2, rfl⟩
      exact ⟨hd y (List.mem_cons_of_mem _ hy) k1 k2, pair_keeps (hpa y hy) k1 k2⟩) h1
    refine swap g1 g2 g3 (hu a (by simp)) (fun l hl => pair_noW (hpl l hl a (by simp))) (fun l hl => pair_noW (hpl l hl x (by simp)))
      (self_l (hs a (by simp))) (self_l (hs x (by simp))) (self_n (hs x (by simp))) (self_n (hs a (by simp)))
      (fun k1 k2 => ⟨hd x (by simp) k1 k2, pair_keeps hax k1 k2⟩) ?_
    refine a.st.mono h2 fun e' σ' hk => ⟨hk.1.1, ?_⟩
    exact move hp' (fun b hb => hs b (List.mem_cons_of_mem _ hb)) (fun b hb => hu b (List.mem_cons_of_mem _ hb)) (fun y hy k1 k2 => hk.2 _ ⟨y, hy, k1, k2, rfl⟩) hk.1.2

theorem getD_lt {listed : Array Bool} {i : Nat} (h : listed.getD i false = true) : i < listed.size := by
  rcases Nat.lt_or_ge i listed.size with h' | h'
  · exact h'
  · simp [Array.getElem?_eq_none h'] at h

theorem preds_mem {ops : Array Oper} {i : Nat} {o : Oper} (ho : ops[i]? = some o) {p : Nat} : p ∈ predsOf ops i ↔ ∃ e ∈ o.after, Region.binds .any e = true ∧ e.on = p := by
  unfold predsOf
  rw [ho]
  simp only [List.mem_map, List.mem_filter, Array.mem_toList_iff]
  constructor
  · rintro ⟨e, ⟨h1, h2⟩, h3⟩; exact ⟨e, h1, h2, h3⟩
  · rintro ⟨e, h1, h2, h3⟩; exact ⟨e, ⟨h1, h2⟩, h3⟩

theorem draw_main {H : Hint} {ops : Array Oper} {D : List Nat} {n : Nat} {Q : Exit → Act → World → Prop} {K : (Nat → AV) → Sig → Prop} (hY : c.n ≤ YS) (hQ : ∀ G e σ a w, K e σ → St c G e σ a w → Q .normal a w) :
    ∀ (fuel : Nat) (τ : List DS) (listed : Array Bool) (G : GS) (e : Nat → AV) (σ : Sig) (a : Act) (w : World), τ.length = fuel → τ.Pairwise (fun a b => pairOK ops (tblGo ops n 0 []) D a b = true) → (∀ a ∈ τ, selfOK ops a = true) →
      listed.size = ops.size → (∀ i, i < ops.size → (listed.getD i false = false ↔ ∃ d ∈ τ, d.i = i)) → (∀ d ∈ τ, ∃ o, ops[d.i]? = some o ∧ cStep P H c.n ops o = some d.st) →
      (∀ i, listed.getD i false = true → ∀ p ∈ predsOf ops i, listed.getD p false = true) → DeadW D τ σ → St c G e σ a w → DW P (tblGo ops n 0 []) K [] τ e σ → wpAnyIn (FW c.r) 0 P .any ops Q fuel listed a w := by
  have tf : ∀ {listed : Array Bool} {i : Nat}, i < listed.size → listed.getD i true = listed.getD i false := by
    intro listed i h; simp [h]
  intro fuel
  induction fuel with
  | zero =>
    intro τ listed G e σ a w hlen hp hs hsz hl hc hcl hd hS h
    have : τ = [] := List.eq_nil_of_length_eq_zero hlen
    subst this
    refine ⟨?_, hQ _ _ _ _ _ h hS⟩
    rw [List.eq_nil_iff_forall_not_mem]
    intro j hj
    obtain ⟨h1, o, ho, _⟩ := mem_ready.1 hj
    have hlt : j < ops.size := (Array.getElem?_eq_some_iff.1 ho).1
    rw [tf (by omega)] at h1
    obtain ⟨d, hd, _⟩ := (hl j hlt).1 h1
    cases hd
  | succ fuel ih =>
    intro τ listed G e σ a w hlen hp hs hsz hl hc hcl hd hS h
    refine ⟨fun hr => ?_, fun i hi => ?_⟩
    · exfalso
      cases τ with
      | nil => cases hlen
      | cons x r =>
        obtain ⟨o, ho, _⟩ := hc x (by simp)
        have hlt : x.i < ops.size := (Array.getElem?_eq_some_iff.1 ho).1
        have : x.i ∈ Region.ready .any ops listed := by
          rw [mem_ready]
          refine ⟨by rw [tf (by omega)]; exact (hl _ hlt).2 ⟨x, by simp, rfl⟩, o, ho, fun ed hed hb => ?_⟩
          have hpm : ed.on ∈ predsOf ops x.i := (preds_mem ho).2 ⟨ed, hed, hb, rfl⟩
          have hsx := hs x (by simp)
          unfold selfOK at hsx
          simp only [Bool.and_eq_true, Bool.not_eq_true', List.all_eq_true] at hsx
          have hlt2 : ed.on < ops.size := by have := hsx.1.2 _ hpm; exact Nat.le_of_ble_eq_true this
          cases hf : listed.getD ed.on false with
          | true => rfl
          | false =>
            exfalso
            obtain ⟨d, hdm, hdi⟩ := (hl _ hlt2).1 hf
            rcases List.mem_cons.1 hdm with rfl | hdr
            · exact mem_false hsx.1.1 hpm hdi.symm
            · rw [List.pairwise_cons] at hp
              exact (pair_ne (hp.1 d hdr)).2 (by rw [hdi]; exact hpm)
        rw [hr] at this; cases this
    · obtain ⟨h1, o, ho, hall⟩ := mem_ready.1 hi
      have hlt : i < ops.size := (Array.getElem?_eq_some_iff.1 ho).1
      rw [tf (by omega)] at h1
      obtain ⟨x, hx, rfl⟩ := (hl i hlt).1 h1
      obtain ⟨pre, post, rfl⟩ := List.append_of_mem hx
      have hpreds : ∀ p ∈ predsOf ops x.i, listed.getD p false = true := fun p hpm => by
        obtain ⟨ed, h2, h3, rfl⟩ := (preds_mem ho).1 hpm
        exact hall ed h2 h3
      have hu : ∀ b ∈ pre, anc (tblGo ops n 0 []) b.i x.i = false := by
        intro b hb
        cases hh : anc (tblGo ops n 0 []) b.i x.i with
        | false => rfl
        | true =>
          have := anc_ok (L := fun i => listed.getD i false = true) hcl x.i hpreds b.i hh
          obtain ⟨ob, hob, _⟩ := hc b (by simp [hb])
          have hltb : b.i < ops.size := (Array.getElem?_eq_some_iff.1 hob).1
          rw [(hl b.i hltb).2 ⟨b, by simp [hb], rfl⟩] at this
          cases this
      have hm := move (seen := []) (by simpa using hp) hs hu hd h
      obtain ⟨o', ho', hcs⟩ := hc x (by simp)
      have hp2 := List.pairwise_append.1 hp
      have hp3 := List.pairwise_cons.1 hp2.2.1
      have hm2 := wp_dead (S := fun i => ∃ y ∈ pre ++ post, y.st.op.cls = .n ∧ mem (y.st.dst.getD 0) D = true ∧ i = y.st.dst.getD 0) (by
        rintro i ⟨y, hy, k1, k2, rfl⟩
        have hy' : y ∈ pre ++ x :: post := by rcases List.mem_append.1 hy with h | h <;> simp [h]
        refine ⟨hd y hy' k1 k2, ?_⟩
        rcases List.mem_append.1 hy with hyp | hyp
        · -- before x, and not ordered
          have hpx := hp2.2.2 y hyp x (by simp)
          obtain ⟨g1, g2, g3⟩ := pair_good hpx (hu y hyp)
          unfold goodC at g3
          rw [k1] at g3
          unfold keeps
          cases hxc : x.st.op.cls <;> simp only
          · -- two new ones
            obtain ⟨_, hsd⟩ := noClash_iff g2
            have s1 := self_n (hs y hy') k1
            have s2 := self_n (hs x (by simp)) hxc
            unfold sameDst at hsd
            cases hyd : y.st.dst with
            | none => rw [hyd] at s1; cases s1
            | some yd =>
              cases hxd : x.st.dst with
              | none => rw [hxd] at s2; cases s2
              | some xd =>
                rw [hyd, hxd] at hsd
                simp only [Option.getD_some]
                rw [ne_beq (Ne.symm (beqf_ne hsd))]; rfl
          · rw [hxc] at g3; cases g3
        · exact pair_keeps (hp3.1 y hyp) k1 k2) hm
      refine step_sound hY hcs ho' hS hm2 fun G' e' σ' a' w' hk hS' => ?_
      have hne : ∀ d ∈ pre ++ post, d.i ≠ x.i := by
        intro d hd
        rcases List.mem_append.1 hd with h | h
        · exact (pair_ne (hp2.2.2 d h x (by simp))).1
        · exact Ne.symm (pair_ne (hp3.1 d h)).1
      refine ih (pre ++ post) _ G' e' σ' a' w' (by simp at hlen ⊢; omega) ?_ (fun b hb => hs b (by rcases List.mem_append.1 hb with h | h <;> simp [h])) (by simp [hsz]) (fun i hi => ?_)
        (fun d hd => hc d (by rcases List.mem_append.1 hd with h | h <;> simp [h])) (fun i hi p hpm => ?_) (fun y hy k1 k2 => hk.2 _ ⟨y, hy, k1, k2, rfl⟩) hS' hk.1.2
      · exact hp.sublist (List.Sublist.append_left (List.sublist_cons_self _ _) _)
      · by_cases hix : x.i = i
        · subst hix
          constructor
          · intro hf; simp [hsz, hi] at hf
          · rintro ⟨d, hd, hdi⟩; exact absurd hdi (hne d hd)
        · rw [getD_set_ne false hix, hl i hi]
          constructor
          · rintro ⟨d, hd, rfl⟩
            refine ⟨d, ?_, rfl⟩
            rcases List.mem_append.1 hd with h | h
            · exact List.mem_append_left _ h
            · rcases List.mem_cons.1 h with rfl | h
              · exact absurd rfl hix
              · exact List.mem_append_right _ h
          · rintro ⟨d, hd, rfl⟩
            exact ⟨d, by rcases List.mem_append.1 hd with h | h <;> simp [h], rfl⟩
      · by_cases hix : x.i = i
        · subst hix; exact getD_set_true (hpreds p hpm)
        · rw [getD_set_ne false hix] at hi
          exact getD_set_true (hcl i hi p hpm)

theorem kil_steps {r : List IStep} {K : (Nat → AV) → Sig → Prop} {G : GS} {e : Nat → AV} {a : Act} {w : World} : ∀ {D : List Nat} {σ : Sig}, (∀ d ∈ D, d ≠ YS) → stepsW P (kils D ++ r) K e σ → St c G e σ a w →
    ∃ σ', stepsW P r K e σ' ∧ St c G e σ' a w ∧ (∀ i, σ i = (0, .dead) → σ' i = (0, .dead)) ∧ ∀ d ∈ D, σ' d = (0, .dead)
  | [], σ, _, h, hS => ⟨σ, h, hS, fun _ h => h, fun d hd => by cases hd⟩
  | d :: D, σ, hD, h, hS => by
    have h1 : detW (effO 0 (.kil d) e σ) (contS e none (stepsW P (kils D ++ r) K)) := h
    have h2 : stepsW P (kils D ++ r) K e (upd σ d (0, .dead)) := (h1 0).2
    obtain ⟨σ', k1, k2, k3, k4⟩ := kil_steps (fun d hd => hD d (List.mem_cons_of_mem _ hd)) h2 (hS.stepY (StepOK.kill hS.inv d 0) (.inl (by rw [upd_eq, if_neg (Ne.symm (hD d (by simp)))])))
    have hdd : upd σ d (0, Res.dead) d = (0, .dead) := by rw [upd_eq, if_pos rfl]
    refine ⟨σ', k1, k2, fun i hi => k3 i ?_, fun j hj => ?_⟩
    · rw [upd_eq]; split
      · rfl
      · exact hi
    · rcases List.mem_cons.1 hj with rfl | hj
      · exact k3 _ hdd
      · exact k4 j hj

theorem cTau_spec {H : Hint} {n : Nat} {ops : Array Oper} : ∀ {l : List Nat} {τ : List DS}, cTau P H n ops l = some τ → ∀ d ∈ τ, ∃ o, ops[d.i]? = some o ∧ cStep P H n ops o = some d.st
  | [], τ, h, d, hd => by simp [cTau] at h; subst h; cases hd
  | i :: r, τ, h, d, hd => by
    simp only [cTau, Option.bind_eq_bind, Option.bind_eq_some_iff] at h
    obtain ⟨o, ho, s, hs, τ', ht, h⟩ := h
    cases h
    rcases List.mem_cons.1 hd with rfl | hd
    · exact ⟨o, ho, hs⟩
    · exact cTau_spec ht d hd

theorem pairs_spec {ops : Array Oper} {T D : List Nat} : ∀ {τ : List DS}, pairsOK ops T D τ = true → τ.Pairwise (fun a b => pairOK ops T D a b = true) ∧ ∀ a ∈ τ, selfOK ops a = true
  | [], _ => ⟨.nil, fun a ha => by cases ha⟩
  | x :: r, h => by
    simp only [pairsOK, Bool.and_eq_true, List.all_eq_true] at h
    obtain ⟨h1, h2⟩ := pairs_spec h.2
    refine ⟨List.pairwise_cons.2 ⟨fun a ha => h.1.2 a ha, h1⟩, fun a ha => ?_⟩
    rcases List.mem_cons.1 ha with rfl | ha
    · exact h.1.1
    · exact h2 a ha

theorem draw_sound {H : Hint} {id : Nat} {ops : Array Oper} {sts : List IStep} {K : (Nat → AV) → Sig → Prop} {Q : Exit → Act → World → Prop} (hY : c.n ≤ YS) (hc : cDraw P H c.n ops = some sts) (hQ : ∀ G e σ a w, K e σ → St c G e σ a w → Q .normal a w)
    {G : GS} {e : Nat → AV} {σ : Sig} {a : Act} {w : World} (hS : St c G e σ a w)
    (h : stepsW P sts K e σ) : (Code.region id ops true).wpIn (FW c.r) 0 P Q a w := by
  simp only [cDraw, Option.bind_eq_bind, Option.bind_eq_some_iff] at hc
  obtain ⟨l, hl, τ, hτ, hc⟩ := hc
  split at hc
  · rename_i hcond
    cases hc
    simp only [Bool.and_eq_true, tauOK, List.all_eq_true, List.mem_range] at hcond
    obtain ⟨hm, ⟨hall, hpair⟩, hDl⟩ := hcond
    obtain ⟨hp, hs⟩ := pairs_spec hpair
    refine wpIn_region_any hm ?_
    have hS' := hS.stepY (StepOK.drew (w' := { w with drawn := w.drawn + 1 }) hS.inv rfl rfl rfl rfl) (.refl _)
    obtain ⟨σ', k1, k2, _, k4⟩ := kil_steps (fun d hd => blt_ne (hDl d hd)) h hS'
    have hcov : ∀ i, i < ops.size → ∃ d ∈ τ, d.i = i := fun i hi => by
      have := mem_true (hall i hi)
      simpa using this
    have hnd : (τ.map (·.i)).Nodup := by
      rw [List.Nodup, List.pairwise_map]
      exact hp.imp fun h => (pair_ne h).1
    have hlen : τ.length = ops.size := by
      have hsub : ∀ i ∈ τ.map (·.i), i < ops.size := fun i hi => by
        obtain ⟨d, hd, rfl⟩ := List.mem_map.1 hi
        obtain ⟨o, ho, _⟩ := cTau_spec hτ d hd
        exact (Array.getElem?_eq_some_iff.1 ho).1
      have hperm : (τ.map (·.i)).Perm (List.range ops.size) := by
        rw [List.perm_ext_iff_of_nodup hnd List.nodup_range]
        intro i
        rw [List.mem_range]
        exact ⟨hsub i, fun hi => by
          obtain ⟨d, hd, h⟩ := hcov i hi
          exact List.mem_map.2 ⟨d, hd, h⟩⟩
      have := hperm.length_eq
      simpa using this
    refine draw_main hY hQ ops.size τ _ G e σ' a _ hlen hp hs (by simp) (fun i hi => ?_) (cTau_spec hτ) (fun i hi => ?_) (fun y hy k5 k6 => k4 _ (mem_true k6)) k2 (emit_DW k1)
    · constructor
      · exact fun _ => hcov i hi
      · intro _; simp [hi]
    · have := getD_lt hi
      simp at this
      simp [this] at hi
  · cases hc
end Go.Abs
