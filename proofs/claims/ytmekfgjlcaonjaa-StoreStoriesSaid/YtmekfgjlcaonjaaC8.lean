/- A part of the proofs of the laws of this seat: contracts of the functions that they reach, each proved of the program's form in Lean. No condition beyond those that each contract names. -/
import Derived.Test.YtmekfgjlcaonjaaC1
import Derived.Test.YtmekfgjlcaonjaaB
set_option linter.unusedVariables false
set_option linter.unusedSimpArgs false
set_option maxRecDepth 20000
set_option maxHeartbeats 4000000
namespace Go.Abs
open Go.Proofs
abbrev kA (k : Int × Int) : AV := .agg [.int .i64 k.1, .int .i64 k.2]
abbrev kvK (kv : List ((Int × Int) × Int)) : List AV := kv.map fun x => kA x.1
abbrev kvV (kv : List ((Int × Int) × Int)) : List AV := kv.map fun x => AV.int .i64 x.2
def midx (k : Int × Int) : List ((Int × Int) × Int) → Nat
  | [] => 0
  | x :: r => if x.1 = k then 0 else midx k r + 1
def mhas (k : Int × Int) (kv : List ((Int × Int) × Int)) : Prop := midx k kv < kv.length
instance (k : Int × Int) (kv : List ((Int × Int) × Int)) : Decidable (mhas k kv) := inferInstanceAs (Decidable (_ < _))
def mget : List ((Int × Int) × Int) → Int × Int → Int
  | [], _ => 0
  | x :: r, k => if x.1 = k then x.2 else mget r k
def mins (kv : List ((Int × Int) × Int)) (k : Int × Int) : List ((Int × Int) × Int) := if mhas k kv then kv else kv ++ [(k, 0)]
def mput (kv : List ((Int × Int) × Int)) (k : Int × Int) (v : Int) : List ((Int × Int) × Int) := (mins kv k).set (midx k kv) (k, v)
theorem keyEqP (a b : Int × Int) : keyEq (.flat [.i, .i]) (kA a) (kA b) = some (decide (a = b)) := by
  obtain ⟨a1, a2⟩ := a
  obtain ⟨b1, b2⟩ := b
  show some (decide (a1 = b1) && (decide (a2 = b2) && true)) = _
  rw [Bool.and_true, ← Bool.decide_and]
  simp
theorem findP (k : Int × Int) : ∀ (kv : List ((Int × Int) × Int)) (n : Nat), findA (.flat [.i, .i]) (kA k) (kvK kv) n = some (if mhas k kv then some (n + midx k kv) else none)
  | [], n => rfl
  | x :: r, n => by
    show (match keyEq (.flat [.i, .i]) (kA k) (kA x.1) with
      | some true => some (some n)
      | some false => findA (.flat [.i, .i]) (kA k) (kvK r) (n + 1)
      | none => none) = _
    rw [keyEqP]
    by_cases h : k = x.1
    · subst h
      simp [mhas, midx]
    · have h' : ¬ x.1 = k := fun e => h e.symm
      rw [decide_eq_false h]
      simp only
      rw [findP k r (n + 1)]
      by_cases hm : mhas k r
      · have : mhas k (x :: r) := by unfold mhas at *; simp only [midx, if_neg h', List.length_cons]; omega
        rw [if_pos hm, if_pos this]
        simp only [midx, if_neg h']; congr 2; omega
      · have : ¬ mhas k (x :: r) := by unfold mhas at *; simp only [midx, if_neg h', List.length_cons]; omega
        rw [if_neg hm, if_neg this]
theorem mget_idx (k : Int × Int) : ∀ kv, mhas k kv → (kvV kv).getD (midx k kv) .junk = .int .i64 (mget kv k)
  | [], h => absurd h (by simp [mhas, midx])
  | x :: r, h => by
    by_cases hx : x.1 = k
    · simp [midx, mget, hx]
    · have := mget_idx k r (by unfold mhas at *; simp only [midx, if_neg hx, List.length_cons] at h; omega)
      simp only [midx, mget, if_neg hx]
      simpa using this
theorem mget_not (k : Int × Int) : ∀ kv, ¬ mhas k kv → mget kv k = 0 ∧ midx k kv = kv.length
  | [], _ => ⟨rfl, rfl⟩
  | x :: r, h => by
    by_cases hx : x.1 = k
    · exact absurd (by simp [mhas, midx, hx]) h
    · have := mget_not k r (by unfold mhas at *; simp only [midx, if_neg hx, List.length_cons] at h; omega)
      simp only [midx, mget, if_neg hx, List.length_cons]; exact ⟨this.1, by omega⟩
theorem mget_app (kv m : List ((Int × Int) × Int)) (k : Int × Int) : mget (kv ++ m) k = if mhas k kv then mget kv k else mget m k := by
  induction kv with
  | nil => simp [mhas, midx]
  | cons x r ih =>
    by_cases hx : x.1 = k
    · simp [mget, hx, mhas, midx]
    · have : mhas k (x :: r) ↔ mhas k r := by unfold mhas; simp only [midx, if_neg hx, List.length_cons]; omega
      simp only [List.cons_append, mget, if_neg hx, ih, this]
theorem mget_mins (kv : List ((Int × Int) × Int)) (k k' : Int × Int) : mget (mins kv k) k' = mget kv k' := by
  unfold mins
  split
  · rfl
  · rename_i h
    rw [mget_app]
    split
    · rfl
    · rename_i h2
      rw [(mget_not k' kv h2).1]
      simp only [mget]; split <;> rfl
theorem mget_set (k : Int × Int) (v : Int) : ∀ (kv : List ((Int × Int) × Int)) (k' : Int × Int), mhas k kv → mget (kv.set (midx k kv) (k, v)) k' = if k' = k then v else mget kv k'
  | [], _, h => absurd h (by simp [mhas, midx])
  | x :: r, k', h => by
    by_cases hx : x.1 = k
    · simp only [midx, if_pos hx, List.set_cons_zero, mget]
      by_cases hk : k' = k
      · subst hk; simp
      · rw [if_neg (fun e => hk e.symm), if_neg hk, if_neg (fun e => hk (by rw [← e, hx]))]
    · have ih := mget_set k v r k' (by unfold mhas at *; simp only [midx, if_neg hx, List.length_cons] at h; omega)
      simp only [midx, if_neg hx, List.set_cons_succ, mget, ih]
      by_cases hk : k' = k
      · subst hk; rw [if_neg hx, if_pos rfl]; simp
      · by_cases h2 : x.1 = k'
        · rw [if_pos h2, if_neg hk, if_pos h2]
        · rw [if_neg h2, if_neg hk, if_neg hk, if_neg h2]
theorem mhas_mins (kv : List ((Int × Int) × Int)) (k : Int × Int) : mhas k (mins kv k) ∧ midx k (mins kv k) = midx k kv := by
  unfold mins
  split
  · rename_i h; exact ⟨h, rfl⟩
  · rename_i h
    have key : ∀ l : List ((Int × Int) × Int), ¬ mhas k l → midx k (l ++ [(k, 0)]) = l.length := by
      intro l
      induction l with
      | nil => intro _; simp [midx]
      | cons x r ih =>
        intro h
        by_cases hx : x.1 = k
        · exact absurd (by simp [mhas, midx, hx]) h
        · have := ih (by unfold mhas at *; simp only [midx, if_neg hx, List.length_cons] at h; omega)
          simp only [List.cons_append, midx, if_neg hx, this, List.length_cons]
    have h1 := key kv h
    refine ⟨by unfold mhas; rw [h1]; simp, by rw [h1, (mget_not k kv h).2]⟩
theorem mget_put (kv : List ((Int × Int) × Int)) (k : Int × Int) (v : Int) (k' : Int × Int) : mget (mput kv k v) k' = if k' = k then v else mget kv k' := by
  obtain ⟨h1, h2⟩ := mhas_mins kv k
  unfold mput
  rw [← h2, mget_set k v _ k' h1, mget_mins]
theorem kvK_set (l : List ((Int × Int) × Int)) (n : Nat) (y : (Int × Int) × Int) : kvK (l.set n y) = (kvK l).set n (kA y.1) := List.map_set
theorem kvV_set (l : List ((Int × Int) × Int)) (n : Nat) (y : (Int × Int) × Int) : kvV (l.set n y) = (kvV l).set n (.int .i64 y.2) := List.map_set
section
variable {P : Program} {K : (Nat → AV) → Sig → Prop} {e : Nat → AV} {σ : Sig}
theorem w_mlkP {m k : IOpd} {d : Nat} {r : List IStep} {i h : Nat} {kv : List ((Int × Int) × Int)} {a b : Int} (hm : m.ev e = .map i h) (hσ : σ i = (h, .row [.mpv (kvK kv) (kvV kv)])) (hk : k.ev e = .agg [.int .i64 a, .int .i64 b])
    (hK : stepsW P r K (upd e d (.int .i64 (mget kv (a, b)))) σ) : stepsW P (⟨some d, none, .mlk (.flat [.i, .i]) (.int .i64 0) false m k⟩ :: r) K e σ := by
  refine w_det (p := h = h) (v := fun _ => .int .i64 (mget kv (a, b))) (σ' := fun _ => σ) (fun _ => ?_) rfl fun _ => hK
  show mlkO (.flat [.i, .i]) (.int .i64 0) false σ (k.ev e) (m.ev e) = _
  rw [hm, hk]
  simp only [mlkO, mapR, hσ]
  rw [show (AV.agg [.int .i64 a, .int .i64 b]) = kA (a, b) from rfl, findP]
  simp only
  by_cases hh : mhas (a, b) kv
  · rw [if_pos hh, Nat.zero_add]; simp only [lkV]; rw [mget_idx _ _ hh]
  · rw [if_neg hh]; simp only [lkV]; rw [(mget_not _ _ hh).1]
theorem w_menP {m k : IOpd} {d : Nat} {r : List IStep} {i h : Nat} {kv : List ((Int × Int) × Int)} {a b : Int} (hm : m.ev e = .map i h) (hσ : σ i = (h, .row [.mpv (kvK kv) (kvV kv)])) (hk : k.ev e = .agg [.int .i64 a, .int .i64 b])
    (hK : stepsW P r K (upd e d (.tup [.int .i64 (mget kv (a, b)), .int .i64 (midx (a, b) kv)])) (upd σ i (h, .row [.mpv (kvK (mins kv (a, b))) (kvV (mins kv (a, b)))]))) : stepsW P (⟨some d, none, .men (.flat [.i, .i]) (.int .i64 0) m k⟩ :: r) K e σ := by
  refine w_det (p := h = h) (v := fun _ => .tup [.int .i64 (mget kv (a, b)), .int .i64 (midx (a, b) kv)]) (σ' := fun _ => upd σ i (h, .row [.mpv (kvK (mins kv (a, b))) (kvV (mins kv (a, b)))])) (fun _ => ?_) rfl fun _ => hK
  show menO (.flat [.i, .i]) (.int .i64 0) σ (k.ev e) (m.ev e) = _
  rw [hm, hk]
  simp only [menO, mapW, hσ]
  rw [show (AV.agg [.int .i64 a, .int .i64 b]) = kA (a, b) from rfl, findP]
  by_cases hh : mhas (a, b) kv
  · rw [if_pos hh, Nat.zero_add]; simp only
    rw [mget_idx _ _ hh, mins, if_pos hh]
    have : upd σ i (h, .row [.mpv (kvK kv) (kvV kv)]) = σ := by
      funext j; rw [upd_eq]; split
      · rename_i hj; subst hj; rw [hσ]
      · rfl
    rw [this]
  · rw [if_neg hh]; simp only
    obtain ⟨h1, h2⟩ := mget_not _ _ hh
    rw [h1, h2, mins, if_neg hh]
    simp [AV.norm, AV.strip, stripL]
theorem w_mstP {m s v : IOpd} {r : List IStep} {i h : Nat} {kv : List ((Int × Int) × Int)} {k : Int × Int} {x : Int} (hm : m.ev e = .map i h) (hσ : σ i = (h, .row [.mpv (kvK (mins kv k)) (kvV (mins kv k))])) (hs : s.ev e = .int .i64 (midx k kv)) (hv : v.ev e = .int .i64 x)
    (hK : stepsW P r K e (upd σ i (h, .row [.mpv (kvK (mput kv k x)) (kvV (mput kv k x))]))) : stepsW P (⟨none, none, .mst m s v⟩ :: r) K e σ := by
  obtain ⟨h1, h2⟩ := mhas_mins kv k
  have hlt : midx k kv < (mins kv k).length := by rw [← h2]; exact h1
  refine w_det0 (p := h = h ∧ 0 ≤ (midx k kv : Int) ∧ (midx k kv : Int) < (kvK (mins kv k)).length) (v := .junk) (σ' := upd σ i (h, .row [.mpv (kvK (mins kv k)) ((kvV (mins kv k)).set (midx k kv : Int).toNat (AV.int .i64 x))])) (fun _ => ?_) ⟨rfl, by omega, by simp; omega⟩ ?_
  · show mstO σ (s.ev e) (v.ev e) (m.ev e) = _
    rw [hm, hs, hv]
    simp only [mstO, mapW, hσ, forceA]; rfl
  · have e1 : kvK (mput kv k x) = kvK (mins kv k) := by
      unfold mput
      rw [kvK_set]
      have hself : ∀ (l : List ((Int × Int) × Int)), mhas k l → (kvK l).set (midx k l) (kA k) = kvK l := by
        intro l
        induction l with
        | nil => intro _; rfl
        | cons y r ih =>
          intro hh
          by_cases hy : y.1 = k
          · simp [midx, hy]
          · have := ih (by unfold mhas at *; simp only [midx, if_neg hy, List.length_cons] at hh; omega)
            simp only [midx, if_neg hy, List.map_cons, List.set_cons_succ]
            rw [this]
      have := hself _ h1
      rw [h2] at this
      exact this
    have e2 : (kvV (mins kv k)).set (midx k kv : Int).toNat (AV.int .i64 x) = kvV (mput kv k x) := by
      unfold mput
      rw [kvV_set, Int.toNat_natCast]
    rw [e2, ← e1]; exact hK
end
/-- (aloeswood/store.met).add -/
def ir100 : IFn :=
  ⟨26, [], (.seq (.ops [⟨(some 10), none, (.mov (.t 1))⟩,
    ⟨(some 11), none, (.len false (.t 10))⟩,
    ⟨(some 12), none, (.mov (.k (.int .i64 0)))⟩])
  (.blk 0 (.loop (.seq (.ops [⟨(some 13), none, (.bin .lss (.t 12) (.t 11))⟩])
      (.seq (.cnd (.t 13)
        .skip
        (.exit 0))
      (.seq (.blk 1 (.seq (.ops [⟨(some 14), none, (.ixA 1 (.t 10) (.t 12))⟩,
          ⟨(some 15), none, (.ld 1 false (.t 14))⟩,
          ⟨(some 9), none, (.mov (.t 15))⟩])
        (.seq (.ops [])
        (.seq (.ops [⟨(some 16), none, (.mov (.t 0))⟩,
          ⟨(some 17), none, (.mov (.t 9))⟩,
          ⟨(some 18), none, (.mov (.t 2))⟩,
          ⟨(some 19), none, (.bld [(.int .i64 0), (.int .i64 0)] [(0, 1, (.t 17)), (1, 1, (.t 18))])⟩,
          ⟨(some 21), none, (.mov (.t 3))⟩])
        (.alt (.ops [⟨(some 20), none, (.mlk (.flat [.i, .i]) (.int .i64 0) false (.t 16) (.t 19))⟩,
            ⟨(some 22), none, (.bin .add (.t 20) (.t 21))⟩,
            ⟨(some 23), none, (.men (.flat [.i, .i]) (.int .i64 0) (.t 16) (.t 19))⟩,
            ⟨(some 24), none, (.ext 1 (.t 23))⟩,
            ⟨none, none, (.mst (.t 16) (.t 24) (.t 22))⟩])
          (.ops [⟨(some 23), none, (.men (.flat [.i, .i]) (.int .i64 0) (.t 16) (.t 19))⟩,
            ⟨(some 24), none, (.ext 1 (.t 23))⟩,
            ⟨(some 20), none, (.mlk (.flat [.i, .i]) (.int .i64 0) false (.t 16) (.t 19))⟩,
            ⟨(some 22), none, (.bin .add (.t 20) (.t 21))⟩,
            ⟨none, none, (.mst (.t 16) (.t 24) (.t 22))⟩]))))))
      (.ops [⟨(some 25), none, (.bin .add (.t 12) (.k (.int .i64 1)))⟩,
        ⟨(some 12), none, (.mov (.t 25))⟩])))))))⟩
def hint100 (P : Program) : Hint := {}
def cntI (g : Int) (l : List Int) : Int := (l.count g : Nat)
theorem add_s (kv : List ((Int × Int) × Int)) (g : Nat) (gs : List Int) (n b : Int) (hl : gs.length ≤ 1000) (hb : -1 ≤ b ∧ b ≤ 1) (hkv : ∀ k, -1000000 ≤ mget kv k ∧ mget kv k ≤ 1000000) :
    RawC Try.prog 100 [.map 1000 g, .slc 1 (iR gs) .non, .int .i64 n, .int .i64 b] (sg [(1000, (g, .row [.mpv (kvK kv) (kvV kv)]))])
      (SR (fun kv' v => v = .tup [] ∧ ∀ k, mget kv' k = mget kv k + (if k.2 = n then b * cntI k.1 gs else 0)) (fun kv' => [(1000, (g, .row [.mpv (kvK kv') (kvV kv')]))])) := by
  refine RawC.walk (H := hint100 Try.prog) ir100 Try.func100 rfl (by kernel_rfl) rfl ?_
  unfold ir100
  repeat' (first
    | with_reducible (first | refine Rd.p ?_ | refine w_alt ?_ ?_ | refine zE ?_ | refine zE0 ?_)
    | with_reducible (first | refine zI fun y hy => ?_ | refine zL ?_ | refine zS ?_ | refine zA fun _ => ?_ | refine zV ?_ | refine zC ?_ | refine zG ?_ | refine zU ?_ | refine zG0 ?_ | refine zU0 ?_ | refine zF ?_)
    | with_reducible (first | refine zX ?_ | refine zD fun _ => ?_ | refine zD0 ?_ | refine zN ?_ | refine zF0 ?_ | refine zX0 ?_ | refine z1 ?_ | refine z2 ?_ | refine z3 ?_ | refine z4 ?_ | refine z5 ?_ | refine z6 ?_ | refine z7 ?_ | refine z8 ?_ | refine y1 ?_ | refine y2 ?_ | refine y3 ?_ | refine y4 ?_ | refine y5 ?_ | refine y6 ?_ | refine y7 ?_ | refine y8 ?_ | refine Rt.p (fun _ => ?_) fun _ => ?_)
    | ((with_reducible apply w_ixM); (focus exact rfl); (focus exact rfl); case' hk => intro y hy) | ((with_reducible (first | apply w_val | apply q_ends)); (focus exact rfl)))
  refine w_loopK [0, 2, 3, 10, 11] [] (fun x : List Int × List Int × List ((Int × Int) × Int) => gs = x.1 ++ x.2.1 ∧ ∀ k, mget x.2.2 k = mget kv k + (if k.2 = n then b * cntI k.1 x.1 else 0)) (fun x => x.2.1.length) (fun x => [(12, .int .i64 x.1.length)]) (fun x => [(1000, (g, .row [.mpv (kvK x.2.2) (kvV x.2.2)]))]) ([], gs, kv) ⟨rfl, fun k => by simp [cntI]⟩ ⟨rfl, trivial⟩ ⟨rfl, trivial⟩ ?_
  rintro ⟨pre, post, m⟩ ⟨hp, hm⟩ e σ
  dsimp only at hp hm ⊢
  have hlen := congrArg List.length hp
  rw [List.length_append] at hlen
  cases post with
  | nil =>
    rw [List.append_nil] at hp
    subst hp
    simp only [List.length_nil] at hlen
    repeat' (first
      | with_reducible (first | refine Rd.p ?_ | refine w_alt ?_ ?_ | refine zE ?_ | refine zE0 ?_)
      | with_reducible (first | refine zI fun y hy => ?_ | refine zL ?_ | refine zS ?_ | refine zA fun _ => ?_ | refine zV ?_ | refine zC ?_ | refine zG ?_ | refine zU ?_ | refine zG0 ?_ | refine zU0 ?_ | refine zF ?_)
      | with_reducible (first | refine zX ?_ | refine zD fun _ => ?_ | refine zD0 ?_ | refine zN ?_ | refine zF0 ?_ | refine zX0 ?_ | refine z1 ?_ | refine z2 ?_ | refine z3 ?_ | refine z4 ?_ | refine z5 ?_ | refine z6 ?_ | refine z7 ?_ | refine z8 ?_ | refine y1 ?_ | refine y2 ?_ | refine y3 ?_ | refine y4 ?_ | refine y5 ?_ | refine y6 ?_ | refine y7 ?_ | refine y8 ?_ | refine Rt.p (fun _ => ?_) fun _ => ?_)
      | ((with_reducible apply w_ixM); (focus exact rfl); (focus exact rfl); case' hk => intro y hy) | ((with_reducible (first | apply w_val | apply q_ends)); (focus exact rfl)))
    exact ⟨m, ⟨rfl, hm⟩, rfl, trivial⟩
  | cons a post =>
    simp only [List.length_cons] at hlen
    have hbd : -1000000 - 1000 ≤ mget m (a, n) ∧ mget m (a, n) ≤ 1000000 + 1000 := by
      have h1 := hm (a, n)
      have h2 := hkv (a, n)
      have h3 : (pre.count a) ≤ pre.length := List.count_le_length
      simp only [if_true, cntI] at h1
      have h4 : b = -1 ∨ b = 0 ∨ b = 1 := by omega
      rcases h4 with rfl | rfl | rfl <;> omega
    have hnew : ∀ k, mget (mput m (a, n) (mget m (a, n) + b)) k = mget kv k + (if k.2 = n then b * cntI k.1 (pre ++ [a]) else 0) := by
      intro k
      rw [mget_put]
      obtain ⟨k1, k2⟩ := k
      by_cases hk : (k1, k2) = (a, n)
      · simp only [Prod.mk.injEq] at hk
        obtain ⟨rfl, rfl⟩ := hk
        rw [if_pos rfl, hm]
        simp only [if_true, cntI, List.count_append, List.count_singleton_self]
        rw [Int.natCast_add, Int.mul_add]; omega
      · rw [if_neg hk, hm]
        by_cases h2 : k2 = n
        · subst h2
          have h1 : ¬ k1 = a := fun h => hk (by rw [h])
          simp only [if_true, cntI, List.count_append]
          have : List.count k1 [a] = 0 := List.count_eq_zero.2 (by simpa using h1)
          rw [this]; simp
        · simp only [if_neg h2]
    repeat' (first
      | with_reducible (first | refine Rd.p ?_ | refine w_alt ?_ ?_ | refine zE ?_ | refine zE0 ?_)
      | (refine w_ixP (pre := pre) (y := a) (post := post) hp rfl rfl ?_)
      | (first | (refine w_mlkP rfl rfl rfl ?_; (try rw [mget_mins])) | refine w_menP rfl rfl rfl ?_ | refine w_mstP (k := (a, n)) rfl rfl rfl rfl ?_)
      | with_reducible (first | refine zI fun y hy => ?_ | refine zL ?_ | refine zS ?_ | refine zA fun _ => ?_ | refine zV ?_ | refine zC ?_ | refine zG ?_ | refine zU ?_ | refine zG0 ?_ | refine zU0 ?_ | refine zF ?_)
      | with_reducible (first | refine zX ?_ | refine zD fun _ => ?_ | refine zD0 ?_ | refine zN ?_ | refine zF0 ?_ | refine zX0 ?_ | refine z1 ?_ | refine z2 ?_ | refine z3 ?_ | refine z4 ?_ | refine z5 ?_ | refine z6 ?_ | refine z7 ?_ | refine z8 ?_ | refine y1 ?_ | refine y2 ?_ | refine y3 ?_ | refine y4 ?_ | refine y5 ?_ | refine y6 ?_ | refine y7 ?_ | refine y8 ?_ | refine Rt.p (fun _ => ?_) fun _ => ?_)
      | ((with_reducible apply w_ixM); (focus exact rfl); (focus exact rfl); case' hk => intro y hy) | ((with_reducible (first | apply w_val | apply q_ends)); (focus exact rfl)))
    all_goals
      refine zQ (pre ++ [a], post, mput m (a, n) (mget m (a, n) + b)) ?_ ?_
      · exact ⟨by rw [hp]; simp, hnew⟩
      · simp
/-- A call of it. -/
theorem add_call {σ : Sig} {d j : Nat} {Q : AV → Sig → Prop} (kv : List ((Int × Int) × Int)) (g : Nat) (gs : List Int) (n b : Int) (hl : gs.length ≤ 1000) (hb : -1 ≤ b ∧ b ≤ 1) (hkv : ∀ k, -1000000 ≤ mget kv k ∧ mget kv k ≤ 1000000) (hσ : σ j = (g, .row [.mpv (kvK kv) (kvV kv)])) (hj : renOK [(1000, j)] = true)
    (hQ : ∀ kv', (∀ k, mget kv' k = mget kv k + (if k.2 = n then b * cntI k.1 gs else 0)) → Q (.tup []) (upd σ j (g, .row [.mpv (kvK kv') (kvV kv')]))) :
    ACall Try.prog 100 [.map j g, .slc 1 (iR gs) .non, .int .i64 n, .int .i64 b] σ d Q := by
  refine ACall.liftS (add_s kv g gs n b hl hb hkv) [(1000, j)] none hj ?_ ?_ ⟨⟨_, by rw [hσ]⟩, trivial⟩ (fun _ => rfl) ?_
  · show _ = ren _ _ :: _
    have : lk (flipL [(1000, j)]) j = some 1000 := by simp [flipL, lk]
    simp only [ren, this]; rfl
  · show _ = [(1000, ((σ j).1, renR _ (σ j).2))]
    rw [hσ]; rfl
  · rintro kv' av ⟨rfl, hys⟩
    exact hQ kv' hys
end Go.Abs
