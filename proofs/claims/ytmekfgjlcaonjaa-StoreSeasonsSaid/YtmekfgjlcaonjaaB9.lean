/- A part of the proofs of the laws of this seat: contracts of the functions that they reach, each proved of the program's form in Lean. No condition beyond those that each contract names. -/
import Derived.Test.YtmekfgjlcaonjaaB0
import Derived.Test.YtmekfgjlcaonjaaB8
set_option linter.unusedVariables false
set_option linter.unusedSimpArgs false
set_option maxRecDepth 20000
set_option maxHeartbeats 4000000
/-! ### Orders and what they keep -/
namespace Go.Abs
open Go.Proofs
/-- slices.Index[[]int,int] -/
def ir128 : IFn :=
  ⟨19, [(4, none)], (.seq (.ops [⟨(some 4), none, (.mov (.k (.int .i64 0)))⟩])
  (.seq (.seq (.ops [⟨(some 6), none, (.mov (.t 0))⟩,
    ⟨(some 7), none, (.len false (.t 6))⟩,
    ⟨(some 8), none, (.mov (.k (.int .i64 0)))⟩])
  (.blk 0 (.loop (.seq (.ops [⟨(some 9), none, (.bin .lss (.t 8) (.t 7))⟩])
      (.seq (.cnd (.t 9)
        .skip
        (.exit 0))
      (.seq (.blk 1 (.seq (.ops [⟨(some 10), none, (.mov (.t 8))⟩,
          ⟨(some 5), none, (.mov (.t 10))⟩])
        (.seq (.ops [⟨(some 11), none, (.mov (.t 1))⟩,
          ⟨(some 12), none, (.mov (.t 0))⟩,
          ⟨(some 13), none, (.mov (.t 5))⟩,
          ⟨(some 14), none, (.ixA 1 (.t 12) (.t 13))⟩,
          ⟨(some 15), none, (.ld 1 false (.t 14))⟩,
          ⟨(some 16), none, (.bin .eql (.t 11) (.t 15))⟩])
        (.cnd (.t 16)
          (.seq (.ops [⟨(some 17), none, (.mov (.t 5))⟩,
            ⟨(some 4), none, (.mov (.t 17))⟩])
          .ret)
          .skip))))
      (.ops [⟨(some 18), none, (.bin .add (.t 8) (.k (.int .i64 1)))⟩,
        ⟨(some 8), none, (.mov (.t 18))⟩])))))))
  (.seq (.ops [⟨(some 4), none, (.mov (.k (.int .i64 (-1))))⟩])
  .ret)))⟩
def hint128 (P : Program) : Hint := {}

/-- slices.Contains[[]int,int] -/
def ir107 : IFn :=
  ⟨9, [(4, none)], (.seq (.ops [⟨(some 4), none, (.mov (.k (.bool false)))⟩])
  (.seq (.ops [⟨(some 5), none, (.mov (.t 0))⟩,
    ⟨(some 6), none, (.mov (.t 1))⟩,
    ⟨(some 7), none, (.callF 128 [(.t 5), (.t 6)])⟩,
    ⟨(some 8), none, (.bin .geq (.t 7) (.k (.int .i64 0)))⟩,
    ⟨(some 4), none, (.mov (.t 8))⟩])
  .ret))⟩
def hint107 (P : Program) : Hint := {}

/-- The numbers of a set's bits. -/
def bitsL (set : Nat) (k : Nat) : List Int := ((List.range k).filter (fun i => set.testBit i)).map (fun (i : Nat) => (i : Int))
theorem bitsL_succ (set k : Nat) : bitsL set (k+1) = bitsL set k ++ (if set.testBit k then [(k : Int)] else []) := by
  unfold bitsL
  rw [List.range_succ, List.filter_append, List.map_append]
  by_cases h : set.testBit k <;> simp [h, List.filter_cons]
theorem bitsL_len (set k : Nat) : (bitsL set k).length ≤ k := by
  unfold bitsL; rw [List.length_map]; exact Nat.le_trans (List.length_filter_le _ _) (by simp)
theorem bitsL_high {set k n : Nat} (h : set >>> k = 0) (hn : k ≤ n) : bitsL set n = bitsL set k := by
  induction n with
  | zero => rw [show k = 0 by omega]
  | succ n ih =>
    by_cases hkn : k = n + 1
    · rw [hkn]
    · rw [bitsL_succ, ih (by omega), if_neg, List.append_nil]
      have : set >>> n = 0 := by rw [show n = k + (n - k) by omega, Nat.shiftRight_add, h, Nat.zero_shiftRight]
      simp [Nat.testBit, this]
theorem bitsL_mem {set k : Nat} {x : Int} (h : x ∈ bitsL set k) : 0 ≤ x ∧ x < k := by
  unfold bitsL at h
  obtain ⟨i, hi, rfl⟩ := List.mem_map.1 h
  have := List.mem_range.1 (List.mem_filter.1 hi).1
  omega
abbrev membersL (set : Nat) : List Int := bitsL set 62
def idxF' (g : Int) : Nat → List Int → Int
  | _, [] => -1
  | s, x :: r => if x = g then s else idxF' g (s + 1) r
/-- The place of a number in a list; -1 if there is none. -/
abbrev idxI (l : List Int) (g : Int) : Int := idxF' g 0 l
theorem idxF'_bd (g : Int) : ∀ (s : Nat) (l : List Int), idxF' g s l = -1 ∨ (s ≤ idxF' g s l ∧ idxF' g s l < s + l.length)
  | s, [] => .inl rfl
  | s, x :: r => by
    simp only [idxF', List.length_cons]
    split
    · right; omega
    · have := idxF'_bd g (s + 1) r; omega
theorem index_c (l : List Int) (g : Int) (hl : l.length < 1000000) : Fn0 Try.prog 128 [.slc 1 (iR l) .non, .int .i64 g] (fun v => v = .int .i64 (idxI l g)) := by
  refine RawC.walk (H := hint128 Try.prog) ir128 Try.func128 rfl rfl rfl ?_
  unfold ir128
  repeat' (first
    | with_reducible (first | refine Rd.p ?_ | refine w_alt ?_ ?_ | refine zE ?_ | refine zE0 ?_)
    | with_reducible (first | refine zI fun y hy => ?_ | refine zL ?_ | refine zS ?_ | refine zA fun _ => ?_ | refine zV ?_ | refine zC ?_ | refine zG ?_ | refine zU ?_ | refine zG0 ?_ | refine zU0 ?_ | refine zF ?_)
    | with_reducible (first | refine zX ?_ | refine zD fun _ => ?_ | refine zD0 ?_ | refine zN ?_ | refine zF0 ?_ | refine zX0 ?_ | refine z1 ?_ | refine z2 ?_ | refine z3 ?_ | refine z4 ?_ | refine z5 ?_ | refine z6 ?_ | refine z7 ?_ | refine z8 ?_ | refine y1 ?_ | refine y2 ?_ | refine y3 ?_ | refine y4 ?_ | refine y5 ?_ | refine y6 ?_ | refine y7 ?_ | refine y8 ?_ | refine Rt.p (fun _ => ?_) fun _ => ?_)
    | ((with_reducible apply w_ixM); (focus exact rfl); (focus exact rfl); case' hk => intro y hy) | ((with_reducible (first | apply w_val | apply q_ends)); (focus exact rfl)))
  refine w_loopK [0, 1, 7] [] (fun x : List Int × List Int => l = x.1 ++ x.2 ∧ idxI l g = idxF' g x.1.length x.2) (fun x => x.2.length) (fun x => [(8, .int .i64 x.1.length)]) (fun _ => []) ([], l) ⟨rfl, rfl⟩ ⟨rfl, trivial⟩ trivial ?_
  rintro ⟨pre, post⟩ ⟨hl, hb⟩ e σ
  dsimp only at hl hb ⊢
  have hlen := congrArg List.length hl
  cases post with
  | nil =>
    simp only [List.append_nil, List.length_append, List.length_nil] at hlen
    repeat' (first
      | with_reducible (first | refine Rd.p ?_ | refine w_alt ?_ ?_ | refine zE ?_ | refine zE0 ?_)
      | with_reducible (first | refine zI fun y hy => ?_ | refine zL ?_ | refine zS ?_ | refine zA fun _ => ?_ | refine zV ?_ | refine zC ?_ | refine zG ?_ | refine zU ?_ | refine zG0 ?_ | refine zU0 ?_ | refine zF ?_)
      | with_reducible (first | refine zX ?_ | refine zD fun _ => ?_ | refine zD0 ?_ | refine zN ?_ | refine zF0 ?_ | refine zX0 ?_ | refine z1 ?_ | refine z2 ?_ | refine z3 ?_ | refine z4 ?_ | refine z5 ?_ | refine z6 ?_ | refine z7 ?_ | refine z8 ?_ | refine y1 ?_ | refine y2 ?_ | refine y3 ?_ | refine y4 ?_ | refine y5 ?_ | refine y6 ?_ | refine y7 ?_ | refine y8 ?_ | refine Rt.p (fun _ => ?_) fun _ => ?_)
      | ((with_reducible apply w_ixM); (focus exact rfl); (focus exact rfl); case' hk => intro y hy) | ((with_reducible (first | apply w_val | apply q_ends)); (focus exact rfl)))
    rw [hb]; rfl
  | cons x post =>
    simp only [List.length_append, List.length_cons] at hlen
    simp only [idxF'] at hb
    repeat' (first
      | with_reducible (first | refine Rd.p ?_ | refine w_alt ?_ ?_ | refine zE ?_ | refine zE0 ?_)
      | (refine w_ixP hl rfl rfl ?_)
      | with_reducible (first | refine zI fun y hy => ?_ | refine zL ?_ | refine zS ?_ | refine zA fun _ => ?_ | refine zV ?_ | refine zC ?_ | refine zG ?_ | refine zU ?_ | refine zG0 ?_ | refine zU0 ?_ | refine zF ?_)
      | with_reducible (first | refine zX ?_ | refine zD fun _ => ?_ | refine zD0 ?_ | refine zN ?_ | refine zF0 ?_ | refine zX0 ?_ | refine z1 ?_ | refine z2 ?_ | refine z3 ?_ | refine z4 ?_ | refine z5 ?_ | refine z6 ?_ | refine z7 ?_ | refine z8 ?_ | refine y1 ?_ | refine y2 ?_ | refine y3 ?_ | refine y4 ?_ | refine y5 ?_ | refine y6 ?_ | refine y7 ?_ | refine y8 ?_ | refine Rt.p (fun _ => ?_) fun _ => ?_)
      | ((with_reducible apply w_ixM); (focus exact rfl); (focus exact rfl); case' hk => intro y hy) | ((with_reducible (first | apply w_val | apply q_ends)); (focus exact rfl)))
    · rename_i h
      rw [if_pos h.symm] at hb
      rw [hb]; rfl
    · rename_i h
      rw [if_neg (fun h' => h h'.symm)] at hb
      refine zQ (pre ++ [x], post) ?_ ?_
      · exact ⟨by rw [hl]; simp, by rw [hb, len_snoc]⟩
      · simp
theorem contains_c (l : List Int) (g : Int) (hl : l.length < 1000000) : Fn0 Try.prog 107 [.slc 1 (iR l) .non, .int .i64 g] (fun v => v = .bool (decide (0 ≤ idxI l g))) := by
  refine RawC.walk (H := hint107 Try.prog) ir107 Try.func107 rfl rfl rfl ?_
  unfold ir107
  repeat' (first
    | with_reducible (first | refine Rd.p ?_ | refine w_alt ?_ ?_ | refine zE ?_ | refine zE0 ?_)
    | with_reducible (first | refine zI fun y hy => ?_ | refine zL ?_ | refine zS ?_ | refine zA fun _ => ?_ | refine zV ?_ | refine zC ?_ | refine zG ?_ | refine zU ?_ | refine zG0 ?_ | refine zU0 ?_ | refine zF ?_)
    | ((with_reducible refine acall_id ?_); refine ACall.val (index_c l g hl) rfl rfl ?_)
    | with_reducible (first | refine zX ?_ | refine zD fun _ => ?_ | refine zD0 ?_ | refine zN ?_ | refine zF0 ?_ | refine zX0 ?_ | refine z1 ?_ | refine z2 ?_ | refine z3 ?_ | refine z4 ?_ | refine z5 ?_ | refine z6 ?_ | refine z7 ?_ | refine z8 ?_ | refine y1 ?_ | refine y2 ?_ | refine y3 ?_ | refine y4 ?_ | refine y5 ?_ | refine y6 ?_ | refine y7 ?_ | refine y8 ?_ | refine Rt.p (fun _ => ?_) fun _ => ?_)
    | ((with_reducible apply w_ixM); (focus exact rfl); (focus exact rfl); case' hk => intro y hy) | ((with_reducible (first | apply w_val | apply q_ends)); (focus exact rfl)))
  rfl
/-- The seats of an order's guests. -/
def atF (xs : List Int) : Nat → List Int → List Int
  | _, [] => xs
  | s, g :: r => atF (xs.set g.toNat s) (s + 1) r
abbrev atL (l : List Int) : List Int := atF (List.replicate l.length 0) 0 l
abbrev sA (gs : List Guest) (rs : List Rule) (at' : List Int) : AV := .agg [.slc 5 (gR gs) .non, .slc 4 (rR rs) .non, .slc 1 (iR at') .non]
theorem atF_len : ∀ (l : List Int) (xs : List Int) (s : Nat), (atF xs s l).length = xs.length
  | [], xs, s => rfl
  | g :: r, xs, s => by rw [atF, atF_len r]; simp
/-- Whether a rule is kept, by the guests' seats. -/
def keepsB (gs : List Guest) (xs : List Int) (r : Rule) : Bool :=
  if r.kind = 1 then decide (getI xs r.a < getI xs r.b)
  else if r.kind = 2 then decide (max (getI xs r.a - getI xs r.b) (getI xs r.b - getI xs r.a) = 1)
  else if r.kind = 3 then !decide (max (getI xs r.a - getI xs r.b) (getI xs r.b - getI xs r.a) = 1)
  else if r.kind = 4 then decide (getI xs r.a = 0)
  else if r.kind = 5 then decide (getI xs r.a = xs.length - 1)
  else rankB gs xs
where
  /-- No guest of a lesser rank sits before one of a greater one. -/
  rankB (gs : List Guest) (xs : List Int) : Bool := (List.range gs.length).all fun a => (List.range gs.length).all fun b => !(decide (getI xs a < getI xs b) && decide (rankAt gs a < rankAt gs b))
  rankAt (gs : List Guest) (a : Nat) : Int := ((gs[a]?).map (·.rank)).getD 0
abbrev rankB := keepsB.rankB
abbrev rankAt := keepsB.rankAt
theorem getI_bd {xs : List Int} (hv : ∀ v ∈ xs, 0 ≤ v ∧ v < 1000) (i : Int) : 0 ≤ getI xs i ∧ getI xs i < 1000 := by
  unfold getI
  cases h : xs[i.toNat]? with
  | none => simp
  | some y => exact hv y (List.mem_of_getElem? h)
theorem rankAt_of {gs : List Guest} {pre post : List Guest} {g : Guest} (h : gs = pre ++ g :: post) : rankAt gs pre.length = g.rank := by
  subst h; simp [rankAt, keepsB.rankAt]
theorem rankB_f {gs : List Guest} {xs : List Int} {a b : Nat} (ha : a < gs.length) (hb : b < gs.length) (h1 : getI xs a < getI xs b) (h2 : rankAt gs a < rankAt gs b) : rankB gs xs = false := by
  rw [show rankB gs xs = keepsB.rankB gs xs from rfl, keepsB.rankB, List.all_eq_false]
  refine ⟨a, List.mem_range.2 ha, ?_⟩
  rw [Bool.not_eq_true, List.all_eq_false]
  exact ⟨b, List.mem_range.2 hb, by simp [h1, h2]⟩
end Go.Abs
