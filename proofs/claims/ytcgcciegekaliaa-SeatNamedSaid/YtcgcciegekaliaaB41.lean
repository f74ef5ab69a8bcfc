/- A part of the proofs of the laws of this seat: contracts of the functions that they reach, each proved of the program's form in Lean. No condition beyond those that each contract names. -/
import Derived.Test.YtcgcciegekaliaaB0
import Derived.Test.YtcgcciegekaliaaB2
import Derived.Test.YtcgcciegekaliaaB9
import Derived.Test.YtcgcciegekaliaaB18
import Derived.Test.YtcgcciegekaliaaB22
import Derived.Test.YtcgcciegekaliaaB37
set_option linter.unusedVariables false
set_option linter.unusedSimpArgs false
set_option maxRecDepth 20000
set_option maxHeartbeats 4000000
/-! ### Choices of so many of some numbers -/
namespace Go.Abs
open Go.Proofs
/-- aloeswood/aloeswoodref08.chosen -/
def ir98 : IFn :=
  ⟨45, [(4, none)], (.seq (.ops [⟨(some 4), none, (.mov (.k .nsl))⟩])
  (.seq (.seq (.ops [⟨(some 9), none, (.mov (.t 1))⟩,
    ⟨(some 10), none, (.bin .eql (.t 9) (.k (.int .i64 0)))⟩])
  (.cnd (.t 10)
    (.seq (.ops [⟨(some 11), none, (.bsl 1 [[.nsl]] [(0, (.k .nsl))])⟩,
      ⟨(some 4), none, (.mov (.t 11))⟩])
    .ret)
    .skip))
  (.seq (.ops [⟨(some 5), none, (.nil 1 5)⟩])
  (.seq (.seq (.ops [⟨(some 6), none, (.mov (.k (.int .i64 0)))⟩])
  (.blk 0 (.loop (.seq (.seq (.ops [⟨(some 12), none, (.mov (.t 6))⟩,
        ⟨(some 13), none, (.mov (.t 0))⟩,
        ⟨(some 14), none, (.len false (.t 13))⟩,
        ⟨(some 15), none, (.bin .lss (.t 12) (.t 14))⟩])
      (.cnd (.t 15)
        .skip
        (.exit 0)))
      (.seq (.blk 1 (.seq (.ops [⟨(some 18), none, (.mov (.t 0))⟩,
          ⟨(some 19), none, (.mov (.t 6))⟩,
          ⟨(some 20), none, (.bin .add (.t 19) (.k (.int .i64 1)))⟩,
          ⟨(some 21), none, (.slS 1 (.t 18) (some (.t 20)) none none)⟩,
          ⟨(some 22), none, (.mov (.t 1))⟩,
          ⟨(some 23), none, (.bin .sub (.t 22) (.k (.int .i64 1)))⟩,
          ⟨(some 24), none, (.callF 98 [(.t 21), (.t 23)])⟩,
          ⟨(some 7), none, (.mov (.t 24))⟩])
        (.seq (.ops [⟨(some 8), none, (.mov (.k (.int .i64 0)))⟩])
        (.blk 2 (.loop (.seq (.seq (.ops [⟨(some 25), none, (.mov (.t 8))⟩,
              ⟨(some 26), none, (.mov (.t 7))⟩,
              ⟨(some 27), none, (.len false (.t 26))⟩,
              ⟨(some 28), none, (.bin .lss (.t 25) (.t 27))⟩])
            (.cnd (.t 28)
              .skip
              (.exit 2)))
            (.seq (.blk 3 (.ops [⟨(some 31), none, (.mov (.t 5))⟩,
                ⟨(some 32), none, (.mov (.t 0))⟩,
                ⟨(some 33), none, (.mov (.t 6))⟩,
                ⟨(some 34), none, (.ixA 1 (.t 32) (.t 33))⟩,
                ⟨(some 35), none, (.ld 1 false (.t 34))⟩,
                ⟨(some 36), none, (.bsl 1 [[(.int .i64 0)]] [(0, (.t 35))])⟩,
                ⟨(some 37), none, (.mov (.t 7))⟩,
                ⟨(some 38), none, (.mov (.t 8))⟩,
                ⟨(some 39), none, (.ixA 1 (.t 37) (.t 38))⟩,
                ⟨(some 40), none, (.ld 1 false (.t 39))⟩,
                ⟨(some 41), none, (.app 1 8 (.t 36) (.t 40) 41)⟩,
                ⟨(some 42), none, (.bsl 1 [[.nsl]] [(0, (.t 41))])⟩,
                ⟨(some 43), none, (.app 1 24 (.t 31) (.t 42) 5)⟩,
                ⟨(some 5), none, (.mov (.t 43))⟩]))
            (.ops [⟨(some 29), none, (.mov (.t 8))⟩,
              ⟨(some 30), none, (.bin .add (.t 29) (.k (.int .i64 1)))⟩,
              ⟨(some 8), none, (.mov (.t 30))⟩]))))))))
      (.ops [⟨(some 16), none, (.mov (.t 6))⟩,
        ⟨(some 17), none, (.bin .add (.t 16) (.k (.int .i64 1)))⟩,
        ⟨(some 6), none, (.mov (.t 17))⟩]))))))
  (.seq (.ops [⟨(some 44), none, (.mov (.t 5))⟩,
    ⟨(some 4), none, (.mov (.t 44))⟩])
  .ret)))))⟩
def hint98 (P : Program) : Hint := { site := [(43, 5)], nils := [(5, 1)], frz := [], mve := [], wr := [] }

def chK : List Int → Nat → List (List Int)
  | _, 0 => [[]]
  | [], _ + 1 => []
  | x :: r, k + 1 => (chK r k).map (x :: ·) ++ chK r (k + 1)
theorem chK_len : ∀ (l : List Int) (k : Nat), (chK l k).length ≤ 2 ^ l.length
  | [], 0 => by simp [chK]
  | x :: r, 0 => by rw [chK]; exact Nat.one_le_two_pow
  | [], k + 1 => by simp [chK]
  | x :: r, k + 1 => by
    rw [chK, List.length_append, List.length_map, List.length_cons, Nat.pow_succ]
    have := chK_len r k
    have := chK_len r (k + 1)
    omega
theorem chK_mem_len : ∀ {l : List Int} {k : Nat} {y : List Int}, y ∈ chK l k → y.length = k
  | _, 0, y, h => by rw [chK] at h; simp at h; subst h; rfl
  | [], k + 1, y, h => by rw [chK] at h; cases h
  | x :: r, k + 1, y, h => by
    rw [chK, List.mem_append, List.mem_map] at h
    rcases h with ⟨z, hz, rfl⟩ | h
    · rw [List.length_cons, chK_mem_len hz]
    · exact chK_mem_len h
theorem Sub.rows0 {t : Tag} : Sub (.slc 1 [[.nsl]] t) (.slc 1 (llR [[]]) .non) := fun G v h => h.imp (fun ⟨_, he⟩ => by cases he) fun ⟨b, o, cap, h1, h2, h3, _⟩ =>
  ⟨b, o, cap, h1, h2, ⟨rfl, ⟨by obtain ⟨_, ⟨⟨u, hu, h0, hv⟩, _⟩, _⟩ := h3; exact ⟨u, hu, h0, .inl ⟨hv, rfl⟩⟩, trivial⟩, trivial⟩, trivial⟩
theorem chosen_c : ∀ (k : Nat) (l : List Int), l.length ≤ 16 → k ≤ 1000 → Fn0 Try.prog 98 [.slc 1 (iR l) .non, .int .i64 k] (fun v => v = .slc 1 (llR (chK l k)) .non)
  | 0, l, hl, hk0 => by
    refine RawC.walk (H := hint98 Try.prog) ir98 Try.func98 rfl rfl rfl ?_
    unfold ir98
    repeat' (first
      | with_reducible (first | refine Rd.p ?_ | refine zW (.slc 1 (llR [[]]) .non) ?_ ?_)
      | with_reducible (first | refine zI fun y hy => ?_ | refine zL ?_ | refine zS ?_ | refine zA fun _ => ?_ | refine zV ?_ | refine zC ?_ | refine zG ?_ | refine zU ?_ | refine zG0 ?_ | refine zU0 ?_ | refine zF ?_)
      | with_reducible (first | refine zX ?_ | refine zD fun _ => ?_ | refine zD0 ?_ | refine zN ?_ | refine zF0 ?_ | refine zX0 ?_ | refine z1 ?_ | refine z2 ?_ | refine z3 ?_ | refine z4 ?_ | refine z5 ?_ | refine z6 ?_ | refine z7 ?_ | refine z8 ?_ | refine y1 ?_ | refine y2 ?_ | refine y3 ?_ | refine y4 ?_ | refine y5 ?_ | refine y6 ?_ | refine y7 ?_ | refine y8 ?_ | refine Rt.p (fun _ => ?_) fun _ => ?_)
      | ((with_reducible apply w_ixM); (focus exact rfl); (focus exact rfl); case' hk => intro y hy) | ((with_reducible (first | apply w_val | apply q_ends)); (focus exact rfl)))
    · exact Sub.rows0
    · rw [chK]
  | k + 1, l, hl, hk0 => by
    have hLen : (chK l (k + 1)).length ≤ 65536 := Nat.le_trans (chK_len l (k + 1)) (Nat.pow_le_pow_right (by omega) hl)
    refine RawC.walk (H := hint98 Try.prog) ir98 Try.func98 rfl rfl rfl ?_
    unfold ir98
    repeat' (first
      | with_reducible (first | refine Rd.p ?_ | refine zE ?_ | refine zE0 ?_)
      | with_reducible (first | refine zI fun y hy => ?_ | refine zL ?_ | refine zS ?_ | refine zA fun _ => ?_ | refine zV ?_ | refine zC ?_ | refine zG ?_ | refine zU ?_ | refine zG0 ?_ | refine zU0 ?_ | refine zF ?_)
      | with_reducible (first | refine zX ?_ | refine zD fun _ => ?_ | refine zD0 ?_ | refine zN ?_ | refine zF0 ?_ | refine zX0 ?_ | refine z1 ?_ | refine z2 ?_ | refine z3 ?_ | refine z4 ?_ | refine z5 ?_ | refine z6 ?_ | refine z7 ?_ | refine z8 ?_ | refine y1 ?_ | refine y2 ?_ | refine y3 ?_ | refine y4 ?_ | refine y5 ?_ | refine y6 ?_ | refine y7 ?_ | refine y8 ?_ | refine Rt.p (fun _ => ?_) fun _ => ?_)
      | ((with_reducible apply w_ixM); (focus exact rfl); (focus exact rfl); case' hk => intro y hy) | ((with_reducible (first | apply w_val | apply q_ends)); (focus exact rfl)))
    rename_i g0
    refine w_loopK [0, 1] [] (fun x : List Int × List Int × List (List Int) × Nat => l = x.1 ++ x.2.1 ∧ chK l (k + 1) = x.2.2.1 ++ chK x.2.1 (k + 1))
      (fun x => x.2.1.length) (fun x => [(6, .int .i64 x.1.length), (5, .slc 1 (llR x.2.2.1) (.own 5 x.2.2.2))]) (fun x => [(5, (x.2.2.2, .row []))]) ([], l, [], g0) ⟨rfl, rfl⟩ ⟨rfl, rfl, trivial⟩ ⟨rfl, trivial⟩ ?_
    rintro ⟨pre, post, out, g⟩ ⟨hp, hm⟩ e σ
    dsimp only at hp hm ⊢
    have hlen := congrArg List.length hp
    cases post with
    | nil =>
      simp only [List.append_nil, List.length_append, List.length_nil] at hlen
      repeat' (first
        | with_reducible (first | refine Rd.p ?_ | refine zE ?_ | refine zE0 ?_)
        | with_reducible (first | refine zI fun y hy => ?_ | refine zL ?_ | refine zS ?_ | refine zA fun _ => ?_ | refine zV ?_ | refine zC ?_ | refine zG ?_ | refine zU ?_ | refine zG0 ?_ | refine zU0 ?_ | refine zF ?_)
        | with_reducible (first | refine zX ?_ | refine zD fun _ => ?_ | refine zD0 ?_ | refine zN ?_ | refine zF0 ?_ | refine zX0 ?_ | refine z1 ?_ | refine z2 ?_ | refine z3 ?_ | refine z4 ?_ | refine z5 ?_ | refine z6 ?_ | refine z7 ?_ | refine z8 ?_ | refine y1 ?_ | refine y2 ?_ | refine y3 ?_ | refine y4 ?_ | refine y5 ?_ | refine y6 ?_ | refine y7 ?_ | refine y8 ?_ | refine Rt.p (fun _ => ?_) fun _ => ?_)
        | ((with_reducible apply w_ixM); (focus exact rfl); (focus exact rfl); case' hk => intro y hy) | ((with_reducible (first | apply w_val | apply q_ends)); (focus exact rfl)))
      rw [hm, chK, List.append_nil]; rfl
    | cons x r =>
      simp only [List.length_append, List.length_cons] at hlen
      rw [chK] at hm
      have hml := congrArg List.length hm
      rw [List.length_append, List.length_append, List.length_map] at hml
      have ht : (l.drop ((pre.length : Int) + 1).toNat).take ((l.length : Int) - ((pre.length : Int) + 1)).toNat = r := by
        rw [show ((pre.length : Int) + 1).toNat = pre.length + 1 by omega, hp]
        rw [show pre ++ x :: r = (pre ++ [x]) ++ r by simp, List.drop_left' (by simp)]
        exact List.take_of_length_le (by simp; omega)
      have hrec : Fn0 Try.prog 98 [.slc 1 (iR ((l.drop ((pre.length : Int) + 1).toNat).take ((l.length : Int) - ((pre.length : Int) + 1)).toNat)) .non, .int .i64 (((k + 1 : Nat) : Int) - 1)] (fun v => v = .slc 1 (llR (chK r k)) .non) := by
        rw [ht, show ((k + 1 : Nat) : Int) - 1 = k by omega]; exact chosen_c k r (by omega) (by omega)
      repeat' (first
        | with_reducible (first | refine Rd.p ?_ | refine zE ?_ | refine zE0 ?_)
        | with_reducible (first | refine zI fun y hy => ?_ | refine zL ?_ | refine zS ?_ | refine zA fun _ => ?_ | refine zV ?_ | refine zC ?_ | refine zG ?_ | refine zU ?_ | refine zG0 ?_ | refine zU0 ?_ | refine zF ?_)
        | ((with_reducible refine acall_id ?_); refine ACall.val hrec rfl rfl ?_)
        | with_reducible (first | refine zX ?_ | refine zD fun _ => ?_ | refine zD0 ?_ | refine zN ?_ | refine zF0 ?_ | refine zX0 ?_ | refine z1 ?_ | refine z2 ?_ | refine z3 ?_ | refine z4 ?_ | refine z5 ?_ | refine z6 ?_ | refine z7 ?_ | refine z8 ?_ | refine y1 ?_ | refine y2 ?_ | refine y3 ?_ | refine y4 ?_ | refine y5 ?_ | refine y6 ?_ | refine y7 ?_ | refine y8 ?_ | refine Rt.p (fun _ => ?_) fun _ => ?_)
        | ((with_reducible apply w_ixM); (focus exact rfl); (focus exact rfl); case' hk => intro y hy) | ((with_reducible (first | apply w_val | apply q_ends)); (focus exact rfl)))
      refine w_loopK [0, 1, 6, 7] [] (fun y : List (List Int) × List (List Int) × Nat => chK r k = y.1 ++ y.2.1)
        (fun y => y.2.1.length) (fun y => [(8, .int .i64 y.1.length), (5, .slc 1 (llR (out ++ y.1.map (x :: ·))) (.own 5 y.2.2))]) (fun y => [(5, (y.2.2, .row []))]) ([], chK r k, g) rfl ⟨rfl, (by dsimp only; rw [List.map_nil, List.append_nil]; rfl), trivial⟩ ⟨rfl, trivial⟩ ?_
      rintro ⟨p, q, g2⟩ hq e2 σ2
      dsimp only at hq ⊢
      have hqlen := congrArg List.length hq
      cases q with
      | nil =>
        simp only [List.append_nil, List.length_append, List.length_nil] at hqlen hq
        subst hq
        repeat' (first
          | with_reducible (first | refine Rd.p ?_ | refine zE ?_ | refine zE0 ?_)
          | with_reducible (first | refine zI fun y hy => ?_ | refine zL ?_ | refine zS ?_ | refine zA fun _ => ?_ | refine zV ?_ | refine zC ?_ | refine zG ?_ | refine zU ?_ | refine zG0 ?_ | refine zU0 ?_ | refine zF ?_)
          | with_reducible (first | refine zX ?_ | refine zD fun _ => ?_ | refine zD0 ?_ | refine zN ?_ | refine zF0 ?_ | refine zX0 ?_ | refine z1 ?_ | refine z2 ?_ | refine z3 ?_ | refine z4 ?_ | refine z5 ?_ | refine z6 ?_ | refine z7 ?_ | refine z8 ?_ | refine y1 ?_ | refine y2 ?_ | refine y3 ?_ | refine y4 ?_ | refine y5 ?_ | refine y6 ?_ | refine y7 ?_ | refine y8 ?_ | refine Rt.p (fun _ => ?_) fun _ => ?_)
          | ((with_reducible apply w_ixM); (focus exact rfl); (focus exact rfl); case' hk => intro y hy) | ((with_reducible (first | apply w_val | apply q_ends)); (focus exact rfl)))
        refine zQ (pre ++ [x], r, out ++ (chK r k).map (x :: ·), g2) ?_ ?_
        · exact ⟨by rw [hp]; simp, by rw [hm, List.append_assoc]⟩
        · simp
      | cons y q =>
        simp only [List.length_append, List.length_cons] at hqlen
        have hy := chK_mem_len (show y ∈ chK r k by rw [hq]; simp)
        have hS : out ++ (p ++ [y]).map (x :: ·) = (out ++ p.map (x :: ·)) ++ [x :: y] := by simp
        have hol : (out ++ p.map (x :: ·)).length = out.length + p.length := by simp
        repeat' (first
          | with_reducible (first | refine Rd.p ?_ | refine zE ?_ | refine zE0 ?_)
          | (first | refine w_ixP hp rfl rfl ?_ | refine w_ixP hq rfl rfl ?_)
          | with_reducible (first | refine zI fun y hy => ?_ | refine zL ?_ | refine zS ?_ | refine zA fun _ => ?_ | refine zV ?_ | refine zC ?_ | refine zG ?_ | refine zU ?_ | refine zG0 ?_ | refine zU0 ?_ | refine zF ?_)
          | with_reducible (first | refine zX ?_ | refine zD fun _ => ?_ | refine zD0 ?_ | refine zN ?_ | refine zF0 ?_ | refine zX0 ?_ | refine z1 ?_ | refine z2 ?_ | refine z3 ?_ | refine z4 ?_ | refine z5 ?_ | refine z6 ?_ | refine z7 ?_ | refine z8 ?_ | refine y1 ?_ | refine y2 ?_ | refine y3 ?_ | refine y4 ?_ | refine y5 ?_ | refine y6 ?_ | refine y7 ?_ | refine y8 ?_ | refine Rt.p (fun _ => ?_) fun _ => ?_)
          | ((with_reducible apply w_ixM); (focus exact rfl); (focus exact rfl); case' hk => intro y hy) | ((with_reducible (first | apply w_val | apply q_ends)); (focus exact rfl)))
        rename_i g3 g4
        have hv : AV.slc 1 (llR (out ++ p.map (x :: ·)) ++ [[.slc 1 ([[.int .i64 x]] ++ iR y) .non]]) (.own 5 g4) = AV.slc 1 (llR (out ++ (p ++ [y]).map (x :: ·))) (.own 5 g4) := by
          rw [hS]; exact congrArg (fun z => AV.slc 1 z (.own 5 g4)) (show llR (out ++ p.map (x :: ·)) ++ [[.slc 1 ([[.int .i64 x]] ++ iR y) .non]] = llR (out ++ p.map (x :: ·) ++ [x :: y]) from (map_snoc (f := fun l => [AV.slc 1 (iR l) .non]) (l := out ++ p.map (x :: ·)) (x := x :: y)).symm)
        refine q_loop (p ++ [y], q, g4) ?_ ?_ (by exact ⟨(by rw [len_snoc]; rfl), hv, trivial⟩) (by repeat' (first | exact slots_nil | apply slots_cons | rfl | (rw [map_snoc]; rfl) | (rw [len_snoc]; rfl) | (rw [hS]; rfl) | (rw [hS, map_snoc]; rfl) | (refine int_eq ?_; (try dsimp only); omega) | (refine congrArg AV.bool ?_; simp_all; done))) (by repeat' (first | exact kept_nil | apply kept_cons | rfl)) (by repeat' (first | exact kept_nil | apply kept_cons | rfl))
        · dsimp only
          rw [hq]; simp
        · simp
end Go.Abs
