/- A part of the proofs of the laws of this seat: contracts of the functions that they reach, each proved of the program's form in Lean. No condition beyond those that each contract names. -/
import Derived.Test.YtmekfgjlcaonjaaG1
import Derived.Test.YtmekfgjlcaonjaaC11
import Derived.Test.YtmekfgjlcaonjaaC14
import Derived.Test.YtmekfgjlcaonjaaC5
import Derived.Test.YtmekfgjlcaonjaaC4
import Derived.Test.YtmekfgjlcaonjaaC3
import Derived.Test.YtmekfgjlcaonjaaC2
import Derived.Test.YtmekfgjlcaonjaaC1
import Derived.Test.YtmekfgjlcaonjaaB
set_option linter.unusedVariables false
set_option linter.unusedSimpArgs false
set_option maxRecDepth 20000
set_option maxHeartbeats 4000000
namespace Go.Abs
open Go.Proofs
def loAt (l : List Lon) (i : Int) : Lon := (l[i.toNat]?).getD ⟨0, 0, 0, 0⟩
theorem loAt_mid {l pre post : List Lon} {y : Lon} (h : l = pre ++ y :: post) : loAt l (pre.length : Int) = y := by
  rw [loAt, h]; simp
/-- The loans of a set. -/
abbrev chT (l : List Lon) (set : Nat) : List Lon := (bitsL set l.length).map (loAt l)
def sumL (l : List Lon) : Int := (l.map (·.wo)).sum
/-- Whether no two of some loans contradict each other. -/
def okS : List Lon → List Lon → Bool
  | _, [] => true
  | pre, x :: r => (pre.all fun y => !agB x y) && okS (pre ++ [x]) r
def stepL (l : List Lon) (st : List Int × Int) (set : Nat) : List Int × Int :=
  if okS [] (chT l set) = true ∧ 0 < orI (cmpI (sumL (chT l set)) st.2) (cmpI st.1.length (bitsL set l.length).length) (cmpL st.1 (bitsL set l.length)) then (bitsL set l.length, sumL (chT l set)) else st
def lendV (l : List Lon) : List Int × Int := if lendE l = 0 then foldI (stepL l) (2 ^ l.length) 0 ([], 0) else ([], 0)
theorem lonsE_0 : ∀ {l : List Lon}, lonsE l = 0 → ∀ x ∈ l, lonE x = 0
  | [], _ => fun x hx => by cases hx
  | d :: r, h => by
    simp only [lonsE] at h
    split at h
    · rename_i h0
      intro x hx
      rcases List.mem_cons.1 hx with rfl | hx
      · exact h0
      · exact lonsE_0 h x hx
    · rename_i h0; exact absurd h h0
theorem lonE_0 {g : Lon} (h : lonE g = 0) : 0 ≤ g.wo ∧ g.wo ≤ 1000 := by
  unfold lonE at h
  split at h
  · rename_i h1
    simp only [Bool.and_eq_true, inB_t] at h1
    omega
  · cases h
theorem sumL_snoc (l : List Lon) (y : Lon) : sumL (l ++ [y]) = sumL l + y.wo := by simp [sumL]
theorem sumL_bd : ∀ {l : List Lon}, (∀ x ∈ l, 0 ≤ x.wo ∧ x.wo ≤ 1000) → 0 ≤ sumL l ∧ sumL l ≤ 1000 * l.length
  | [], _ => by simp [sumL]
  | y :: r, h => by
    have ih := sumL_bd (l := r) fun x hx => h x (by simp [hx])
    have h0 := h y (by simp)
    have e : sumL (y :: r) = y.wo + sumL r := by simp [sumL]
    rw [e, List.length_cons]; omega
theorem chT_mem {l : List Lon} {set : Nat} {x : Lon} (h : x ∈ chT l set) : x ∈ l := by
  obtain ⟨i, hi, rfl⟩ := List.mem_map.1 h
  have hb := bitsL_mem hi
  obtain ⟨k, rfl⟩ : ∃ k : Nat, i = k := ⟨i.toNat, by omega⟩
  have hk : k < l.length := by omega
  rw [loAt, Int.toNat_natCast, List.getElem?_eq_getElem hk]
  exact List.getElem_mem _
theorem chT_len (l : List Lon) (set : Nat) : (chT l set).length ≤ l.length := by rw [List.length_map]; exact bitsL_len _ _
/-- aloeswood/store.chosen[aloeswood/api.Loan] -/
def ir109 : IFn :=
  ⟨31, [(4, none), (5, none)], (.seq (.ops [⟨(some 4), none, (.nil 1 4)⟩,
    ⟨(some 5), none, (.nil 4 5)⟩])
  (.seq (.seq (.ops [⟨(some 8), none, (.mov (.t 0))⟩,
    ⟨(some 9), none, (.len false (.t 8))⟩,
    ⟨(some 10), none, (.mov (.k (.int .i64 0)))⟩])
  (.blk 0 (.loop (.seq (.ops [⟨(some 11), none, (.bin .lss (.t 10) (.t 9))⟩])
      (.seq (.cnd (.t 11)
        .skip
        (.exit 0))
      (.seq (.blk 1 (.seq (.ops [⟨(some 12), none, (.mov (.t 10))⟩,
          ⟨(some 13), none, (.ixA 4 (.t 8) (.t 10))⟩,
          ⟨(some 14), none, (.ld 4 true (.t 13))⟩,
          ⟨(some 7), none, (.new [(.int .i64 0), (.int .i64 0), (.int .i64 0), (.int .i64 0)])⟩,
          ⟨(some 6), none, (.mov (.t 12))⟩,
          ⟨none, none, (.st 4 (.t 7) (.t 14))⟩])
        (.seq (.ops [⟨(some 15), none, (.mov (.t 1))⟩,
          ⟨(some 16), none, (.mov (.t 6))⟩,
          ⟨(some 17), none, (.bin .shr (.t 15) (.t 16))⟩,
          ⟨(some 18), none, (.bin .and (.t 17) (.k (.int .i64 1)))⟩,
          ⟨(some 19), none, (.bin .eql (.t 18) (.k (.int .i64 1)))⟩])
        (.cnd (.t 19)
          (.ops [⟨(some 20), none, (.mov (.t 4))⟩,
            ⟨(some 21), none, (.mov (.t 6))⟩,
            ⟨(some 22), none, (.bsl 1 [[(.int .i64 0)]] [(0, (.t 21))])⟩,
            ⟨(some 24), none, (.mov (.t 5))⟩,
            ⟨(some 25), none, (.ld 4 true (.t 7))⟩,
            ⟨(some 26), none, (.bsl 4 [[(.int .i64 0), (.int .i64 0), (.int .i64 0), (.int .i64 0)]] [(0, (.t 25))])⟩,
            ⟨(some 23), none, (.app 1 8 (.t 20) (.t 22) 4)⟩,
            ⟨none, none, (.chk 4 true (.t 7) 25)⟩,
            ⟨(some 27), none, (.app 4 32 (.t 24) (.t 26) 5)⟩,
            ⟨(some 4), none, (.mov (.t 23))⟩,
            ⟨(some 5), none, (.mov (.t 27))⟩])
          .skip))))
      (.ops [⟨(some 28), none, (.bin .add (.t 10) (.k (.int .i64 1)))⟩,
        ⟨(some 10), none, (.mov (.t 28))⟩])))))))
  (.seq (.ops [⟨(some 29), none, (.mov (.t 4))⟩,
    ⟨(some 30), none, (.mov (.t 5))⟩,
    ⟨(some 4), none, (.mov (.t 29))⟩,
    ⟨(some 5), none, (.mov (.t 30))⟩])
  .ret)))⟩
def hint109 (P : Program) : Hint := { site := [(23, 4), (27, 5)], nils := [(4, 1), (5, 4)], frz := [], mve := [], wr := [] }
theorem chosen_s (l : List Lon) (set : Nat) (hl : l.length ≤ 12) (hs : set < 2 ^ 62) : Fn0 Try.prog 109 [.slc 4 (oR l) .non, .int .i64 set] (fun v => v = .tup [.slc 1 (iR (bitsL set l.length)) .non, .slc 4 (oR (chT l set)) .non]) := by
  refine RawC.walk (H := hint109 Try.prog) ir109 Try.func109 rfl rfl rfl ?_
  unfold ir109
  repeat' (first
    | with_reducible (first | refine Rd.p ?_ | refine w_alt ?_ ?_ | refine zE ?_ | refine zE0 ?_)
    | with_reducible (first | refine zI fun y hy => ?_ | refine zL ?_ | refine zS ?_ | refine zA fun _ => ?_ | refine zV ?_ | refine zC ?_ | refine zG ?_ | refine zU ?_ | refine zG0 ?_ | refine zU0 ?_ | refine zF ?_)
    | with_reducible (first | refine zX ?_ | refine zD fun _ => ?_ | refine zD0 ?_ | refine zN ?_ | refine zF0 ?_ | refine zX0 ?_ | refine z1 ?_ | refine z2 ?_ | refine z3 ?_ | refine z4 ?_ | refine z5 ?_ | refine z6 ?_ | refine z7 ?_ | refine z8 ?_ | refine y1 ?_ | refine y2 ?_ | refine y3 ?_ | refine y4 ?_ | refine y5 ?_ | refine y6 ?_ | refine y7 ?_ | refine y8 ?_ | refine Rt.p (fun _ => ?_) fun _ => ?_)
    | ((with_reducible apply w_ixM); (focus exact rfl); (focus exact rfl); case' hk => intro y hy) | ((with_reducible (first | apply w_val | apply q_ends)); (focus exact rfl)))
  rename_i ga gb
  refine w_loopK [1, 8, 9] [] (fun x : List Lon × List Lon × Nat × Nat => l = x.1 ++ x.2.1) (fun x => x.2.1.length) (fun x => [(10, .int .i64 x.1.length), (4, .slc 1 (iR (bitsL set x.1.length)) (.own 4 x.2.2.1)), (5, .slc 4 (oR ((bitsL set x.1.length).map (loAt l))) (.own 5 x.2.2.2))]) (fun x => [(4, (x.2.2.1, .row [])), (5, (x.2.2.2, .row []))]) ([], l, ga, gb) rfl ⟨rfl, rfl, rfl, trivial⟩ (by exact ⟨rfl, rfl, trivial⟩) ?_
  rintro ⟨pre, post, ga, gb⟩ hpp e σ
  dsimp only at hpp ⊢
  have hlen := congrArg List.length hpp
  rw [List.length_append] at hlen
  cases post with
  | nil =>
    simp only [List.length_nil] at hlen
    rw [List.append_nil] at hpp
    repeat' (first
      | with_reducible (first | refine Rd.p ?_ | refine w_alt ?_ ?_ | refine zE ?_ | refine zE0 ?_)
      | with_reducible (first | refine zI fun y hy => ?_ | refine zL ?_ | refine zS ?_ | refine zA fun _ => ?_ | refine zV ?_ | refine zC ?_ | refine zG ?_ | refine zU ?_ | refine zG0 ?_ | refine zU0 ?_ | refine zF ?_)
      | with_reducible (first | refine zX ?_ | refine zD fun _ => ?_ | refine zD0 ?_ | refine zN ?_ | refine zF0 ?_ | refine zX0 ?_ | refine z1 ?_ | refine z2 ?_ | refine z3 ?_ | refine z4 ?_ | refine z5 ?_ | refine z6 ?_ | refine z7 ?_ | refine z8 ?_ | refine y1 ?_ | refine y2 ?_ | refine y3 ?_ | refine y4 ?_ | refine y5 ?_ | refine y6 ?_ | refine y7 ?_ | refine y8 ?_ | refine Rt.p (fun _ => ?_) fun _ => ?_)
      | ((with_reducible apply w_ixM); (focus exact rfl); (focus exact rfl); case' hk => intro y hy) | ((with_reducible (first | apply w_val | apply q_ends)); (focus exact rfl)))
    rw [← hpp]; rfl
  | cons y post =>
    simp only [List.length_cons] at hlen
    have hbit : decide (bitV .and .i64 ((set : Int).fdiv (2 ^ min ((pre.length : Int)).toNat IntKind.i64.bits)) 1 = 1) = set.testBit pre.length := bit_and set hs (k := (pre.length : Int)) ⟨by omega, by omega⟩
    have hsu := bitsL_succ set pre.length
    have hla := loAt_mid hpp
    have hbl := bitsL_len set pre.length
    have hps : (pre ++ [y]).length = pre.length + 1 := by simp
    have hmp : ((bitsL set pre.length).map (loAt l)).length = (bitsL set pre.length).length := by simp
    cases hb : set.testBit pre.length with
    | true =>
      rw [hb] at hbit hsu
      have hbit := of_decide_eq_true hbit
      rw [if_pos rfl] at hsu
      have hmp2 : (bitsL set (pre.length + 1)).map (loAt l) = (bitsL set pre.length).map (loAt l) ++ [y] := by rw [hsu, List.map_append, List.map_singleton, hla]
      generalize hN : bitsL set pre.length = N at *
      generalize hM : N.map (loAt l) = M at *
      repeat' (first
        | with_reducible (first | refine Rd.p ?_ | refine w_alt ?_ ?_ | refine zE ?_ | refine zE0 ?_)
        | (refine w_ixP hpp rfl rfl ?_)
        | with_reducible (first | refine zI fun y hy => ?_ | refine zL ?_ | refine zS ?_ | refine zA fun _ => ?_ | refine zV ?_ | refine zC ?_ | refine zG ?_ | refine zU ?_ | refine zG0 ?_ | refine zU0 ?_ | refine zF ?_)
        | with_reducible (first | refine zX ?_ | refine zD fun _ => ?_ | refine zD0 ?_ | refine zN ?_ | refine zF0 ?_ | refine zX0 ?_ | refine z1 ?_ | refine z2 ?_ | refine z3 ?_ | refine z4 ?_ | refine z5 ?_ | refine z6 ?_ | refine z7 ?_ | refine z8 ?_ | refine y1 ?_ | refine y2 ?_ | refine y3 ?_ | refine y4 ?_ | refine y5 ?_ | refine y6 ?_ | refine y7 ?_ | refine y8 ?_ | refine Rt.p (fun _ => ?_) fun _ => ?_)
        | ((with_reducible apply w_ixM); (focus exact rfl); (focus exact rfl); case' hk => intro y hy) | ((with_reducible (first | apply w_val | apply q_ends)); (focus exact rfl)))
      refine q_loop (pre ++ [y], post, _, _) (by show l = _; rw [hpp]; simp) (by simp) (slots_cons (by show AV.int .i64 _ = AV.int .i64 _; refine int_eq ?_; simp) (slots_cons (by show _ = AV.slc 1 (iR (bitsL set (pre ++ [y]).length)) _; rw [hps, hsu]; rfl) (slots_cons (by show _ = AV.slc 4 (oR ((bitsL set (pre ++ [y]).length).map (loAt l))) _; rw [hps, hmp2]; rfl) slots_nil))) (by exact ⟨rfl, rfl, trivial⟩) (by repeat' (first | exact kept_nil | apply kept_cons | rfl)) (by repeat' (first | exact kept_nil | apply kept_cons | rfl))
    | false =>
      rw [hb] at hbit hsu
      have hbit := of_decide_eq_false hbit
      rw [if_neg (by decide), List.append_nil] at hsu
      repeat' (first
        | with_reducible (first | refine Rd.p ?_ | refine w_alt ?_ ?_ | refine zE ?_ | refine zE0 ?_)
        | (refine w_ixP hpp rfl rfl ?_)
        | with_reducible (first | refine zI fun y hy => ?_ | refine zL ?_ | refine zS ?_ | refine zA fun _ => ?_ | refine zV ?_ | refine zC ?_ | refine zG ?_ | refine zU ?_ | refine zG0 ?_ | refine zU0 ?_ | refine zF ?_)
        | with_reducible (first | refine zX ?_ | refine zD fun _ => ?_ | refine zD0 ?_ | refine zN ?_ | refine zF0 ?_ | refine zX0 ?_ | refine z1 ?_ | refine z2 ?_ | refine z3 ?_ | refine z4 ?_ | refine z5 ?_ | refine z6 ?_ | refine z7 ?_ | refine z8 ?_ | refine y1 ?_ | refine y2 ?_ | refine y3 ?_ | refine y4 ?_ | refine y5 ?_ | refine y6 ?_ | refine y7 ?_ | refine y8 ?_ | refine Rt.p (fun _ => ?_) fun _ => ?_)
        | ((with_reducible apply w_ixM); (focus exact rfl); (focus exact rfl); case' hk => intro y hy) | ((with_reducible (first | apply w_val | apply q_ends)); (focus exact rfl)))
      refine q_loop (pre ++ [y], post, _, _) (by show l = _; rw [hpp]; simp) (by simp) (slots_cons (by show AV.int .i64 _ = AV.int .i64 _; refine int_eq ?_; simp) (slots_cons (by show _ = AV.slc 1 (iR (bitsL set (pre ++ [y]).length)) _; rw [hps, hsu]; rfl) (slots_cons (by show _ = AV.slc 4 (oR ((bitsL set (pre ++ [y]).length).map (loAt l))) _; rw [hps, hsu]; rfl) slots_nil))) (by exact ⟨rfl, rfl, trivial⟩) (by repeat' (first | exact kept_nil | apply kept_cons | rfl)) (by repeat' (first | exact kept_nil | apply kept_cons | rfl))
end Go.Abs
