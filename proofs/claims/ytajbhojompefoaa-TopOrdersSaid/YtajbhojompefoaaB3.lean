/- A part of the proofs of the laws of this seat: contracts of the functions that they reach, each proved of the program's form in Lean. No condition beyond those that each contract names. -/
import Derived.Test.YtajbhojompefoaaB0
import Derived.Test.YtajbhojompefoaaB2
set_option linter.unusedVariables false
set_option linter.unusedSimpArgs false
set_option maxRecDepth 20000
set_option maxHeartbeats 4000000
/-! ### Lists of guests -/
namespace Go.Abs
open Go.Proofs
/-- aloeswood/seat.checkGuests -/
def ir26 : IFn :=
  ⟨24, [(2, none)], (.seq (.ops [⟨(some 2), none, (.mov (.k (.int .i64 0)))⟩])
  (.seq (.seq (.ops [⟨(some 6), none, (.mov (.t 0))⟩,
    ⟨(some 7), none, (.len false (.t 6))⟩,
    ⟨(some 8), none, (.mov (.k (.int .i64 0)))⟩])
  (.blk 0 (.loop (.seq (.ops [⟨(some 9), none, (.bin .lss (.t 8) (.t 7))⟩])
      (.seq (.cnd (.t 9)
        .skip
        (.exit 0))
      (.seq (.blk 1 (.seq (.ops [⟨(some 10), none, (.mov (.t 8))⟩,
          ⟨(some 11), none, (.ixA 5 (.t 6) (.t 8))⟩,
          ⟨(some 12), none, (.ld 5 true (.t 11))⟩,
          ⟨(some 4), none, (.new [(.str ByteArray.empty), (.int .i64 0), (.int .i64 0), (.int .i64 0), (.int .i64 0)])⟩,
          ⟨(some 3), none, (.mov (.t 10))⟩,
          ⟨none, none, (.st 5 (.t 4) (.t 12))⟩])
        (.seq (.seq (.ops [⟨(some 13), none, (.ld 5 true (.t 4))⟩,
          ⟨(some 14), none, (.callF 34 [(.t 13)])⟩,
          ⟨(some 5), none, (.mov (.t 14))⟩])
        (.seq (.ops [⟨(some 15), none, (.mov (.t 5))⟩,
          ⟨(some 16), none, (.bin .neq (.t 15) (.k (.int .i64 0)))⟩])
        (.cnd (.t 16)
          (.seq (.ops [⟨(some 17), none, (.mov (.t 5))⟩,
            ⟨(some 2), none, (.mov (.t 17))⟩])
          .ret)
          .skip)))
        (.seq (.ops [⟨(some 18), none, (.mov (.t 0))⟩,
          ⟨(some 19), none, (.mov (.t 3))⟩,
          ⟨(some 20), none, (.slS 5 (.t 18) none (some (.t 19)) none)⟩,
          ⟨(some 21), none, (.mkf (.func 36) [] [(.t 4)])⟩,
          ⟨(some 22), none, (.callF 35 [(.t 20), (.t 21)])⟩])
        (.cnd (.t 22)
          (.seq (.ops [⟨(some 2), none, (.mov (.k (.int .i64 9)))⟩])
          .ret)
          .skip)))))
      (.ops [⟨(some 23), none, (.bin .add (.t 8) (.k (.int .i64 1)))⟩,
        ⟨(some 8), none, (.mov (.t 23))⟩])))))))
  (.seq (.ops [⟨(some 2), none, (.mov (.k (.int .i64 0)))⟩])
  .ret)))⟩
def hint26 (P : Program) : Hint := {}

/-- aloeswood/seat.checkGuests$1 -/
def ir36 : IFn :=
  ⟨9, [(3, none)], (.seq (.ops [⟨(some 2), none, (.box 5 (.t 0))⟩,
    ⟨(some 3), none, (.mov (.k (.bool false)))⟩])
  (.seq (.ops [⟨(some 4), none, (.flA 0 (.t 2))⟩,
    ⟨(some 5), none, (.ld 1 false (.t 4))⟩,
    ⟨(some 6), none, (.flA 0 (.t 1))⟩,
    ⟨(some 7), none, (.ld 1 false (.t 6))⟩,
    ⟨(some 8), none, (.bin .eql (.t 5) (.t 7))⟩,
    ⟨(some 3), none, (.mov (.t 8))⟩])
  .ret))⟩
def hint36 (P : Program) : Hint := {}

/-- slices.IndexFunc[[]aloeswood/api.Guest,aloeswood/api.Guest] -/
def ir46 : IFn :=
  ⟨19, [(4, none)], (.seq (.ops [⟨(some 4), none, (.mov (.k (.int .i64 0)))⟩])
  (.seq (.seq (.ops [⟨(some 6), none, (.mov (.t 0))⟩,
    ⟨(some 7), none, (.len false (.t 6))⟩,
    ⟨(some 8), none, (.mov (.k (.int .i64 0)))⟩])
  (.blk 0 (.loop (.seq (.ops [⟨(some 9), none, (.bin .lss (.t 8) (.t 7))⟩])
      (.seq (.cnd (.t 9)
        .skip
        (.exit 0))
      (.seq (.blk 1 (.seq (.ops [⟨(some 10), none, (.mov (.t 8))⟩,
          ⟨(some 5), none, (.mov (.t 10))⟩])
        (.seq (.ops [⟨(some 11), none, (.mov (.t 1))⟩,
          ⟨(some 12), none, (.mov (.t 0))⟩,
          ⟨(some 13), none, (.mov (.t 5))⟩,
          ⟨(some 14), none, (.ixA 5 (.t 12) (.t 13))⟩,
          ⟨(some 15), none, (.ld 5 true (.t 14))⟩,
          ⟨(some 16), none, (.callV (.t 11) [(.t 15)])⟩])
        (.cnd (.t 16)
          (.seq (.ops [⟨(some 17), none, (.mov (.t 5))⟩,
            ⟨(some 4), none, (.mov (.t 17))⟩])
          .ret)
          .skip))))
      (.ops [⟨(some 18), none, (.bin .add (.t 8) (.k (.int .i64 1)))⟩,
        ⟨(some 8), none, (.mov (.t 18))⟩])))))))
  (.seq (.ops [⟨(some 4), none, (.mov (.k (.int .i64 (-1))))⟩])
  .ret)))⟩
def hint46 (P : Program) : Hint := {}

/-- slices.ContainsFunc[[]aloeswood/api.Guest,aloeswood/api.Guest] -/
def ir35 : IFn :=
  ⟨9, [(4, none)], (.seq (.ops [⟨(some 4), none, (.mov (.k (.bool false)))⟩])
  (.seq (.ops [⟨(some 5), none, (.mov (.t 0))⟩,
    ⟨(some 6), none, (.mov (.t 1))⟩,
    ⟨(some 7), none, (.callF 46 [(.t 5), (.t 6)])⟩,
    ⟨(some 8), none, (.bin .geq (.t 7) (.k (.int .i64 0)))⟩,
    ⟨(some 4), none, (.mov (.t 8))⟩])
  .ret))⟩
def hint35 (P : Program) : Hint := {}

theorem cg1_c (g : Nat) (x y : Guest) : RawC Try.prog 36 [gA x, .ref 1000 g 0] (sg [(1000, (g, .row (Guest.row y)))]) (SR (fun _ : Unit => fun av => av = .bool (decide (x.name = y.name))) (fun _ => [(1000, (g, .row (Guest.row y)))])) := by
  refine RawC.walk (H := hint36 Try.prog) ir36 Try.func36 rfl rfl rfl ?_
  unfold ir36
  repeat' (first
    | with_reducible (first | refine Rd.p ?_ | refine zE ?_ | refine zE0 ?_)
    | with_reducible (first | refine zI fun y hy => ?_ | refine zL ?_ | refine zS ?_ | refine zA fun _ => ?_ | refine zV ?_ | refine zC ?_ | refine zG ?_ | refine zU ?_ | refine zG0 ?_ | refine zU0 ?_ | refine zF ?_)
    | with_reducible (first | refine zX ?_ | refine zD fun _ => ?_ | refine zD0 ?_ | refine zN ?_ | refine zF0 ?_ | refine zX0 ?_ | refine z1 ?_ | refine z2 ?_ | refine z3 ?_ | refine z4 ?_ | refine z5 ?_ | refine z6 ?_ | refine z7 ?_ | refine z8 ?_ | refine y1 ?_ | refine y2 ?_ | refine y3 ?_ | refine y4 ?_ | refine y5 ?_ | refine y6 ?_ | refine y7 ?_ | refine y8 ?_ | refine Rt.p (fun _ => ?_) fun _ => ?_)
    | ((with_reducible apply w_ixM); (focus exact rfl); (focus exact rfl); case' hk => intro y hy) | ((with_reducible (first | apply w_val | apply q_ends)); (focus exact rfl)))
  exact ⟨(), rfl, rfl, trivial⟩
theorem idxG_c (g : Nat) (l : List Guest) (y : Guest) (hl : l.length < 1000) : RawC Try.prog 46 [.slc 5 (gR l) .non, .clo (.func 36) [] [.ref 1000 g 0]] (sg [(1000, (g, .row (Guest.row y)))])
    (SR (fun k : Int => fun av => av = .int .i64 k ∧ (0 ≤ k ↔ l.any (fun x => decide (x.name = y.name)) = true)) (fun _ => [(1000, (g, .row (Guest.row y)))])) := by
  refine RawC.walk (H := hint46 Try.prog) ir46 Try.func46 rfl rfl rfl ?_
  unfold ir46
  repeat' (first
    | with_reducible (first | refine Rd.p ?_ | refine zE ?_ | refine zE0 ?_)
    | with_reducible (first | refine zI fun y hy => ?_ | refine zL ?_ | refine zS ?_ | refine zA fun _ => ?_ | refine zV ?_ | refine zC ?_ | refine zG ?_ | refine zU ?_ | refine zG0 ?_ | refine zU0 ?_ | refine zF ?_)
    | with_reducible (first | refine zX ?_ | refine zD fun _ => ?_ | refine zD0 ?_ | refine zN ?_ | refine zF0 ?_ | refine zX0 ?_ | refine z1 ?_ | refine z2 ?_ | refine z3 ?_ | refine z4 ?_ | refine z5 ?_ | refine z6 ?_ | refine z7 ?_ | refine z8 ?_ | refine y1 ?_ | refine y2 ?_ | refine y3 ?_ | refine y4 ?_ | refine y5 ?_ | refine y6 ?_ | refine y7 ?_ | refine y8 ?_ | refine Rt.p (fun _ => ?_) fun _ => ?_)
    | ((with_reducible apply w_ixM); (focus exact rfl); (focus exact rfl); case' hk => intro y hy) | ((with_reducible (first | apply w_val | apply q_ends)); (focus exact rfl)))
  refine w_loopK [0, 1, 7] [1000] (fun x : List Guest × List Guest => l = x.1 ++ x.2 ∧ x.1.any (fun x => decide (x.name = y.name)) = false) (fun x => x.2.length) (fun x => [(8, .int .i64 x.1.length)]) (fun _ => []) ([], l) ⟨rfl, rfl⟩ ⟨rfl, trivial⟩ trivial ?_
  rintro ⟨pre, post⟩ ⟨hl, hb⟩ e σ
  dsimp only at hl hb ⊢
  have hlen := congrArg List.length hl
  cases post with
  | nil =>
    simp only [List.append_nil, List.length_append, List.length_nil] at hlen
    repeat' (first
      | with_reducible (first | refine Rd.p ?_ | refine zE ?_ | refine zE0 ?_)
      | with_reducible (first | refine zI fun y hy => ?_ | refine zL ?_ | refine zS ?_ | refine zA fun _ => ?_ | refine zV ?_ | refine zC ?_ | refine zG ?_ | refine zU ?_ | refine zG0 ?_ | refine zU0 ?_ | refine zF ?_)
      | with_reducible (first | refine zX ?_ | refine zD fun _ => ?_ | refine zD0 ?_ | refine zN ?_ | refine zF0 ?_ | refine zX0 ?_ | refine z1 ?_ | refine z2 ?_ | refine z3 ?_ | refine z4 ?_ | refine z5 ?_ | refine z6 ?_ | refine z7 ?_ | refine z8 ?_ | refine y1 ?_ | refine y2 ?_ | refine y3 ?_ | refine y4 ?_ | refine y5 ?_ | refine y6 ?_ | refine y7 ?_ | refine y8 ?_ | refine Rt.p (fun _ => ?_) fun _ => ?_)
      | ((with_reducible apply w_ixM); (focus exact rfl); (focus exact rfl); case' hk => intro y hy) | ((with_reducible (first | apply w_val | apply q_ends)); (focus exact rfl)))
    refine ⟨-1, ⟨rfl, ?_⟩, rfl, trivial⟩
    rw [hl, List.append_nil, hb]; simp
  | cons c post =>
    simp only [List.length_append, List.length_cons] at hlen
    repeat' (first
      | with_reducible (first | refine Rd.p ?_ | refine zE ?_ | refine zE0 ?_)
      | (refine w_ixP hl rfl rfl ?_)
      | with_reducible (first | refine zI fun y hy => ?_ | refine zL ?_ | refine zS ?_ | refine zA fun _ => ?_ | refine zV ?_ | refine zC ?_ | refine zG ?_ | refine zU ?_ | refine zG0 ?_ | refine zU0 ?_ | refine zF ?_)
      | ((with_reducible refine acall_id ?_); refine ACall.liftS (cg1_c _ _ _) [(1000, 1000)] none rfl rfl rfl ⟨⟨_, rfl⟩, trivial⟩ (fun _ => rfl) ?_; rintro _ _ rfl)
      | with_reducible (first | refine zX ?_ | refine zD fun _ => ?_ | refine zD0 ?_ | refine zN ?_ | refine zF0 ?_ | refine zX0 ?_ | refine z1 ?_ | refine z2 ?_ | refine z3 ?_ | refine z4 ?_ | refine z5 ?_ | refine z6 ?_ | refine z7 ?_ | refine z8 ?_ | refine y1 ?_ | refine y2 ?_ | refine y3 ?_ | refine y4 ?_ | refine y5 ?_ | refine y6 ?_ | refine y7 ?_ | refine y8 ?_ | refine Rt.p (fun _ => ?_) fun _ => ?_)
      | ((with_reducible apply w_ixM); (focus exact rfl); (focus exact rfl); case' hk => intro y hy) | ((with_reducible (first | apply w_val | apply q_ends)); (focus exact rfl)))
    · rename_i h
      refine ⟨pre.length, ⟨rfl, ?_⟩, rfl, trivial⟩
      rw [hl]; simp [h]
    · rename_i h
      refine zQ (pre ++ [c], post) ?_ ?_
      · dsimp only
        refine ⟨by rw [hl]; simp, ?_⟩
        rw [List.any_append, hb]; simp [h]
      · simp
theorem conG_c (g : Nat) (l : List Guest) (y : Guest) (hl : l.length < 1000) : RawC Try.prog 35 [.slc 5 (gR l) .non, .clo (.func 36) [] [.ref 1000 g 0]] (sg [(1000, (g, .row (Guest.row y)))])
    (SR (fun _ : Unit => fun av => av = .bool (l.any (fun x => decide (x.name = y.name)))) (fun _ => [(1000, (g, .row (Guest.row y)))])) := by
  refine RawC.walk (H := hint35 Try.prog) ir35 Try.func35 rfl rfl rfl ?_
  unfold ir35
  repeat' (first
    | with_reducible (first | refine Rd.p ?_ | refine zE ?_ | refine zE0 ?_)
    | with_reducible (first | refine zI fun y hy => ?_ | refine zL ?_ | refine zS ?_ | refine zA fun _ => ?_ | refine zV ?_ | refine zC ?_ | refine zG ?_ | refine zU ?_ | refine zG0 ?_ | refine zU0 ?_ | refine zF ?_)
    | ((with_reducible refine acall_id ?_); refine ACall.liftS (idxG_c _ _ _ hl) [(1000, 1000)] none rfl rfl rfl ⟨⟨_, rfl⟩, trivial⟩ (fun _ => rfl) ?_; rintro k _ ⟨rfl, hk⟩)
    | with_reducible (first | refine zX ?_ | refine zD fun _ => ?_ | refine zD0 ?_ | refine zN ?_ | refine zF0 ?_ | refine zX0 ?_ | refine z1 ?_ | refine z2 ?_ | refine z3 ?_ | refine z4 ?_ | refine z5 ?_ | refine z6 ?_ | refine z7 ?_ | refine z8 ?_ | refine y1 ?_ | refine y2 ?_ | refine y3 ?_ | refine y4 ?_ | refine y5 ?_ | refine y6 ?_ | refine y7 ?_ | refine y8 ?_ | refine Rt.p (fun _ => ?_) fun _ => ?_)
    | ((with_reducible apply w_ixM); (focus exact rfl); (focus exact rfl); case' hk => intro y hy) | ((with_reducible (first | apply w_val | apply q_ends)); (focus exact rfl)))
  exact ⟨(), congrArg AV.bool (by rw [Bool.eq_iff_iff]; simpa using hk), rfl, trivial⟩
theorem checkGuests_c (l : List Guest) (hl : l.length < 1000) (hs : ∀ g ∈ l, g.name.size ≤ 1000) : Fn0 Try.prog 26 [.slc 5 (gR l) .non] (fun v => v = .int .i64 (gsErr [] l)) := by
  refine RawC.walk (H := hint26 Try.prog) ir26 Try.func26 rfl rfl rfl ?_
  unfold ir26
  repeat' (first
    | with_reducible (first | refine Rd.p ?_ | refine zE ?_ | refine zE0 ?_)
    | with_reducible (first | refine zI fun y hy => ?_ | refine zL ?_ | refine zS ?_ | refine zA fun _ => ?_ | refine zV ?_ | refine zC ?_ | refine zG ?_ | refine zU ?_ | refine zG0 ?_ | refine zU0 ?_ | refine zF ?_)
    | with_reducible (first | refine zX ?_ | refine zD fun _ => ?_ | refine zD0 ?_ | refine zN ?_ | refine zF0 ?_ | refine zX0 ?_ | refine z1 ?_ | refine z2 ?_ | refine z3 ?_ | refine z4 ?_ | refine z5 ?_ | refine z6 ?_ | refine z7 ?_ | refine z8 ?_ | refine y1 ?_ | refine y2 ?_ | refine y3 ?_ | refine y4 ?_ | refine y5 ?_ | refine y6 ?_ | refine y7 ?_ | refine y8 ?_ | refine Rt.p (fun _ => ?_) fun _ => ?_)
    | ((with_reducible apply w_ixM); (focus exact rfl); (focus exact rfl); case' hk => intro y hy) | ((with_reducible (first | apply w_val | apply q_ends)); (focus exact rfl)))
  refine w_loopK [0, 6, 7] [] (fun x : List Guest × List Guest => l = x.1 ++ x.2 ∧ gsErr [] l = gsErr x.1 x.2) (fun x => x.2.length) (fun x => [(8, .int .i64 x.1.length)]) (fun _ => []) ([], l) ⟨rfl, rfl⟩ ⟨rfl, trivial⟩ trivial ?_
  rintro ⟨pre, post⟩ ⟨hl, hb⟩ e σ
  dsimp only at hl hb ⊢
  have hlen := congrArg List.length hl
  cases post with
  | nil =>
    simp only [List.append_nil, List.length_append, List.length_nil] at hlen
    repeat' (first
      | with_reducible (first | refine Rd.p ?_ | refine zE ?_ | refine zE0 ?_)
      | with_reducible (first | refine zI fun y hy => ?_ | refine zL ?_ | refine zS ?_ | refine zA fun _ => ?_ | refine zV ?_ | refine zC ?_ | refine zG ?_ | refine zU ?_ | refine zG0 ?_ | refine zU0 ?_ | refine zF ?_)
      | with_reducible (first | refine zX ?_ | refine zD fun _ => ?_ | refine zD0 ?_ | refine zN ?_ | refine zF0 ?_ | refine zX0 ?_ | refine z1 ?_ | refine z2 ?_ | refine z3 ?_ | refine z4 ?_ | refine z5 ?_ | refine z6 ?_ | refine z7 ?_ | refine z8 ?_ | refine y1 ?_ | refine y2 ?_ | refine y3 ?_ | refine y4 ?_ | refine y5 ?_ | refine y6 ?_ | refine y7 ?_ | refine y8 ?_ | refine Rt.p (fun _ => ?_) fun _ => ?_)
      | ((with_reducible apply w_ixM); (focus exact rfl); (focus exact rfl); case' hk => intro y hy) | ((with_reducible (first | apply w_val | apply q_ends)); (focus exact rfl)))
    rw [hb]; rfl
  | cons c post =>
    simp only [List.length_append, List.length_cons] at hlen
    have ht : (l.drop ((0 : Int)).toNat).take ((pre.length : Int) - 0).toNat = pre := by rw [hl]; simp
    simp only [gsErr] at hb
    repeat' (first
      | with_reducible (first | refine Rd.p ?_ | refine zE ?_ | refine zE0 ?_)
      | (refine w_ixP hl rfl rfl ?_)
      | with_reducible (first | refine zI fun y hy => ?_ | refine zL ?_ | refine zS ?_ | refine zA fun _ => ?_ | refine zV ?_ | refine zC ?_ | refine zG ?_ | refine zU ?_ | refine zG0 ?_ | refine zU0 ?_ | refine zF ?_)
      | ((with_reducible refine acall_id ?_); refine ACall.val (checkGuest_c c (hs c (by rw [hl]; simp))) rfl rfl ?_)
      | ((with_reducible refine acall_id ?_); refine ACall.liftS (conG_c _ _ _ (by simp; omega)) [(1000, 4)] none rfl rfl rfl ⟨⟨_, rfl⟩, trivial⟩ (fun _ => rfl) ?_; rintro _ _ rfl)
      | with_reducible (first | refine zX ?_ | refine zD fun _ => ?_ | refine zD0 ?_ | refine zN ?_ | refine zF0 ?_ | refine zX0 ?_ | refine z1 ?_ | refine z2 ?_ | refine z3 ?_ | refine z4 ?_ | refine z5 ?_ | refine z6 ?_ | refine z7 ?_ | refine z8 ?_ | refine y1 ?_ | refine y2 ?_ | refine y3 ?_ | refine y4 ?_ | refine y5 ?_ | refine y6 ?_ | refine y7 ?_ | refine y8 ?_ | refine Rt.p (fun _ => ?_) fun _ => ?_)
      | ((with_reducible apply w_ixM); (focus exact rfl); (focus exact rfl); case' hk => intro y hy) | ((with_reducible (first | apply w_val | apply q_ends)); (focus exact rfl)))
    · rw [hb, if_neg ‹gErr c ≠ 0›]; rfl
    · rename_i h1 _ h2
      rw [ht] at h2
      rw [hb, if_pos (Decidable.not_not.1 h1), if_pos h2]; rfl
    · rename_i h1 _ h2
      rw [ht] at h2
      refine zQ (pre ++ [c], post) ?_ ?_
      · dsimp only
        refine ⟨by rw [hl]; simp, ?_⟩
        rw [hb, if_pos (Decidable.not_not.1 h1), if_neg (by simp [h2])]
      · simp
def eatsV (g : Guest) (d : Dish) : Int := if bitV .and .i64 d.parts g.never ≠ 0 then 2 else if bitV .and .i64 d.parts g.maybe ≠ 0 then 3 else 1
/-- Eats: the verdict and the error. -/
def eatsP (g : Guest) (d : Dish) : Int × Int := if gErr g ≠ 0 then (0, gErr g) else if dErr d ≠ 0 then (0, dErr d) else (eatsV g d, 0)
end Go.Abs
