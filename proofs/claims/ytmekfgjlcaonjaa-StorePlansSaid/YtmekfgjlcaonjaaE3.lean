/- A part of the proofs of the laws of this seat: contracts of the functions that they reach, each proved of the program's form in Lean. No condition beyond those that each contract names. -/
import Derived.Test.YtmekfgjlcaonjaaC10
import Derived.Test.YtmekfgjlcaonjaaC2
import Derived.Test.YtmekfgjlcaonjaaC1
import Derived.Test.YtmekfgjlcaonjaaB
set_option linter.unusedVariables false
set_option linter.unusedSimpArgs false
set_option maxRecDepth 20000
set_option maxHeartbeats 4000000
namespace Go.Abs
open Go.Proofs
/-- aloeswood/aloeswoodkit.EqLists -/
def ir28 : IFn :=
  ⟨27, [(4, none)], (.seq (.ops [⟨(some 4), none, (.mov (.k (.bool false)))⟩])
  (.seq (.seq (.ops [⟨(some 6), none, (.mov (.t 0))⟩,
    ⟨(some 7), none, (.len false (.t 6))⟩,
    ⟨(some 8), none, (.mov (.t 1))⟩,
    ⟨(some 9), none, (.len false (.t 8))⟩,
    ⟨(some 10), none, (.bin .neq (.t 7) (.t 9))⟩])
  (.cnd (.t 10)
    (.seq (.ops [⟨(some 4), none, (.mov (.k (.bool false)))⟩])
    .ret)
    .skip))
  (.seq (.seq (.ops [⟨(some 5), none, (.mov (.k (.int .i64 0)))⟩])
  (.blk 0 (.loop (.seq (.seq (.ops [⟨(some 11), none, (.mov (.t 5))⟩,
        ⟨(some 12), none, (.mov (.t 0))⟩,
        ⟨(some 13), none, (.len false (.t 12))⟩,
        ⟨(some 14), none, (.bin .lss (.t 11) (.t 13))⟩])
      (.cnd (.t 14)
        .skip
        (.exit 0)))
      (.seq (.blk 1 (.seq (.ops [⟨(some 17), none, (.mov (.t 0))⟩,
          ⟨(some 18), none, (.mov (.t 5))⟩,
          ⟨(some 19), none, (.ixA 1 (.t 17) (.t 18))⟩,
          ⟨(some 20), none, (.ld 1 false (.t 19))⟩,
          ⟨(some 21), none, (.mov (.t 1))⟩,
          ⟨(some 22), none, (.mov (.t 5))⟩,
          ⟨(some 23), none, (.ixA 1 (.t 21) (.t 22))⟩,
          ⟨(some 24), none, (.ld 1 false (.t 23))⟩,
          ⟨(some 25), none, (.callF 40 [(.t 20), (.t 24)])⟩,
          ⟨(some 26), none, (.not (.t 25))⟩])
        (.cnd (.t 26)
          (.seq (.ops [⟨(some 4), none, (.mov (.k (.bool false)))⟩])
          .ret)
          .skip)))
      (.ops [⟨(some 15), none, (.mov (.t 5))⟩,
        ⟨(some 16), none, (.bin .add (.t 15) (.k (.int .i64 1)))⟩,
        ⟨(some 5), none, (.mov (.t 16))⟩]))))))
  (.seq (.ops [⟨(some 4), none, (.mov (.k (.bool true)))⟩])
  .ret))))⟩
def hint28 (P : Program) : Hint := {}
/-- aloeswood/aloeswoodkit.Lists -/
def ir91 : IFn :=
  ⟨20, [(2, none)], (.seq (.ops [⟨(some 2), none, (.mov (.k .nsl))⟩])
  (.seq (.ops [⟨(some 3), none, (.nil 1 3)⟩])
  (.seq (.seq (.ops [⟨(some 4), none, (.mov (.k (.int .i64 0)))⟩])
  (.blk 0 (.loop (.seq (.seq (.ops [⟨(some 5), none, (.mov (.t 4))⟩,
        ⟨(some 6), none, (.mov (.t 0))⟩,
        ⟨(some 7), none, (.len false (.t 6))⟩,
        ⟨(some 8), none, (.bin .lss (.t 5) (.t 7))⟩])
      (.cnd (.t 8)
        .skip
        (.exit 0)))
      (.seq (.blk 1 (.ops [⟨(some 11), none, (.mov (.t 3))⟩,
          ⟨(some 12), none, (.mov (.t 0))⟩,
          ⟨(some 13), none, (.mov (.t 4))⟩,
          ⟨(some 14), none, (.ixA 1 (.t 12) (.t 13))⟩,
          ⟨(some 15), none, (.ld 1 false (.t 14))⟩,
          ⟨(some 16), none, (.callF 58 [(.t 15)])⟩,
          ⟨(some 17), none, (.bsl 1 [[.nsl]] [(0, (.t 16))])⟩,
          ⟨(some 18), none, (.app 1 24 (.t 11) (.t 17) 3)⟩,
          ⟨(some 3), none, (.mov (.t 18))⟩]))
      (.ops [⟨(some 9), none, (.mov (.t 4))⟩,
        ⟨(some 10), none, (.bin .add (.t 9) (.k (.int .i64 1)))⟩,
        ⟨(some 4), none, (.mov (.t 10))⟩]))))))
  (.seq (.ops [⟨(some 19), none, (.mov (.t 3))⟩,
    ⟨(some 2), none, (.mov (.t 19))⟩])
  .ret))))⟩
def hint91 (P : Program) : Hint := { site := [(18, 3)], nils := [(3, 1)], frz := [], mve := [], wr := [] }
/-- aloeswood/aloeswoodkit.OwnSeason -/
def ir43 : IFn :=
  ⟨10, [(2, some (2, true))], (.seq (.ops [⟨(some 1), none, (.box 2 (.t 0))⟩,
    ⟨(some 2), none, (.new [.nsl, .nsl])⟩])
  (.seq (.ops [⟨(some 3), none, (.flA 0 (.t 1))⟩,
    ⟨(some 4), none, (.ld 1 false (.t 3))⟩,
    ⟨(some 6), none, (.flA 1 (.t 1))⟩,
    ⟨(some 7), none, (.ld 1 false (.t 6))⟩,
    ⟨(some 5), none, (.callF 58 [(.t 4)])⟩,
    ⟨none, none, (.chk 1 false (.t 6) 7)⟩,
    ⟨(some 8), none, (.callF 91 [(.t 7)])⟩,
    ⟨(some 9), none, (.bld [.nsl, .nsl] [(0, 1, (.t 5)), (1, 1, (.t 8))])⟩,
    ⟨none, none, (.st 2 (.t 2) (.t 9))⟩])
  .ret))⟩
def hint43 (P : Program) : Hint := {}
/-- aloeswood/aloeswoodkit.EqSeasons -/
def ir48 : IFn :=
  ⟨17, [(4, none)], (.seq (.ops [⟨(some 2), none, (.box 2 (.t 0))⟩,
    ⟨(some 3), none, (.box 2 (.t 1))⟩,
    ⟨(some 4), none, (.mov (.k (.bool false)))⟩])
  (.seq (.ops [⟨(some 5), none, (.flA 0 (.t 2))⟩,
    ⟨(some 6), none, (.ld 1 false (.t 5))⟩,
    ⟨(some 7), none, (.flA 0 (.t 3))⟩,
    ⟨(some 8), none, (.ld 1 false (.t 7))⟩,
    ⟨(some 9), none, (.callF 40 [(.t 6), (.t 8)])⟩,
    ⟨(some 10), none, (.mov (.t 9))⟩,
    ⟨(some 11), (some (10, true)), (.flA 1 (.t 2))⟩,
    ⟨(some 12), (some (10, true)), (.ld 1 false (.t 11))⟩,
    ⟨(some 13), (some (10, true)), (.flA 1 (.t 3))⟩,
    ⟨(some 14), (some (10, true)), (.ld 1 false (.t 13))⟩,
    ⟨(some 15), (some (10, true)), (.callF 28 [(.t 12), (.t 14)])⟩,
    ⟨(some 16), none, (.pick (.t 10) (.t 15) (.k (.bool false)))⟩,
    ⟨(some 4), none, (.mov (.t 16))⟩])
  .ret))⟩
def hint48 (P : Program) : Hint := {}
/-- aloeswood/aloeswoodlaw09.vast -/
def ir41 : IFn :=
  ⟨28, [(2, none)], (.seq (.ops [⟨(some 1), none, (.box 2 (.t 0))⟩,
    ⟨(some 2), none, (.mov (.k (.bool false)))⟩])
  (.seq (.seq (.ops [⟨(some 3), none, (.mov (.k (.int .i64 0)))⟩])
  (.blk 0 (.loop (.seq (.seq (.ops [⟨(some 4), none, (.mov (.t 3))⟩,
        ⟨(some 5), none, (.flA 1 (.t 1))⟩,
        ⟨(some 6), none, (.ld 1 false (.t 5))⟩,
        ⟨(some 7), none, (.len false (.t 6))⟩,
        ⟨(some 8), none, (.bin .lss (.t 4) (.t 7))⟩])
      (.cnd (.t 8)
        .skip
        (.exit 0)))
      (.seq (.blk 1 (.seq (.ops [⟨(some 11), none, (.flA 1 (.t 1))⟩,
          ⟨(some 12), none, (.ld 1 false (.t 11))⟩,
          ⟨(some 13), none, (.mov (.t 3))⟩,
          ⟨(some 14), none, (.ixA 1 (.t 12) (.t 13))⟩,
          ⟨(some 15), none, (.ld 1 false (.t 14))⟩,
          ⟨(some 16), none, (.len false (.t 15))⟩,
          ⟨(some 17), none, (.bin .gtr (.t 16) (.k (.int .i64 20)))⟩])
        (.cnd (.t 17)
          (.seq (.ops [⟨(some 2), none, (.mov (.k (.bool true)))⟩])
          .ret)
          .skip)))
      (.ops [⟨(some 9), none, (.mov (.t 3))⟩,
        ⟨(some 10), none, (.bin .add (.t 9) (.k (.int .i64 1)))⟩,
        ⟨(some 3), none, (.mov (.t 10))⟩]))))))
  (.seq (.ops [⟨(some 18), none, (.flA 0 (.t 1))⟩,
    ⟨(some 19), none, (.ld 1 false (.t 18))⟩,
    ⟨(some 20), none, (.len false (.t 19))⟩,
    ⟨(some 21), none, (.bin .gtr (.t 20) (.k (.int .i64 20)))⟩,
    ⟨(some 22), none, (.mov (.t 21))⟩,
    ⟨(some 23), (some (22, false)), (.flA 1 (.t 1))⟩,
    ⟨(some 24), (some (22, false)), (.ld 1 false (.t 23))⟩,
    ⟨(some 25), (some (22, false)), (.len false (.t 24))⟩,
    ⟨(some 26), (some (22, false)), (.bin .gtr (.t 25) (.k (.int .i64 20)))⟩,
    ⟨(some 27), none, (.pick (.t 22) (.k (.bool true)) (.t 26))⟩,
    ⟨(some 2), none, (.mov (.t 27))⟩])
  .ret)))⟩
def hint41 (P : Program) : Hint := {}
theorem eqLL9_c (a b : List (List Int)) (h : a.length < 2 ^ 62) (hs : ∀ l ∈ a, l.length < 2 ^ 62) : Fn0 Try.prog 28 [.slc 1 (llR a) .non, .slc 1 (llR b) .non] (fun v => v = .bool (decide (a = b))) := by
  refine RawC.walk (H := hint28 Try.prog) ir28 Try.func28 rfl rfl rfl ?_
  unfold ir28
  repeat' (first
    | with_reducible (first | refine Rd.p ?_ | refine w_alt ?_ ?_ | refine zE ?_ | refine zE0 ?_)
    | with_reducible (first | refine zI fun y hy => ?_ | refine zL ?_ | refine zS ?_ | refine zA fun _ => ?_ | refine zV ?_ | refine zC ?_ | refine zG ?_ | refine zU ?_ | refine zG0 ?_ | refine zU0 ?_ | refine zF ?_)
    | with_reducible (first | refine zX ?_ | refine zD fun _ => ?_ | refine zD0 ?_ | refine zN ?_ | refine zF0 ?_ | refine zX0 ?_ | refine z1 ?_ | refine z2 ?_ | refine z3 ?_ | refine z4 ?_ | refine z5 ?_ | refine z6 ?_ | refine z7 ?_ | refine z8 ?_ | refine y1 ?_ | refine y2 ?_ | refine y3 ?_ | refine y4 ?_ | refine y5 ?_ | refine y6 ?_ | refine y7 ?_ | refine y8 ?_ | refine Rt.p (fun _ => ?_) fun _ => ?_)
    | ((with_reducible apply w_ixM); (focus exact rfl); (focus exact rfl); case' hk => intro y hy) | ((with_reducible (first | apply w_val | apply q_ends)); (focus exact rfl)))
  · rename_i h; refine congrArg AV.bool ?_; symm; rw [decide_eq_false_iff_not]; intro e; subst e; exact h rfl
  rename_i hlen
  have hab : a.length = b.length := by omega
  refine w_loopK [0, 1] [] (fun x : List (List Int) × List (List Int) × List (List Int) => a = x.1 ++ x.2.1 ∧ b = x.1 ++ x.2.2) (fun x => x.2.1.length) (fun x => [(5, .int .i64 x.1.length)]) (fun _ => []) ([], a, b) ⟨rfl, rfl⟩ ⟨rfl, trivial⟩ trivial ?_
  rintro ⟨pre, pa, pb⟩ ⟨ha, hb⟩ e σ
  dsimp only at ha hb ⊢
  have hla := congrArg List.length ha
  have hlb := congrArg List.length hb
  simp only [List.length_append] at hla hlb
  cases pa with
  | nil =>
    simp only [List.length_nil] at hla
    repeat' (first
      | with_reducible (first | refine Rd.p ?_ | refine w_alt ?_ ?_ | refine zE ?_ | refine zE0 ?_)
      | with_reducible (first | refine zI fun y hy => ?_ | refine zL ?_ | refine zS ?_ | refine zA fun _ => ?_ | refine zV ?_ | refine zC ?_ | refine zG ?_ | refine zU ?_ | refine zG0 ?_ | refine zU0 ?_ | refine zF ?_)
      | with_reducible (first | refine zX ?_ | refine zD fun _ => ?_ | refine zD0 ?_ | refine zN ?_ | refine zF0 ?_ | refine zX0 ?_ | refine z1 ?_ | refine z2 ?_ | refine z3 ?_ | refine z4 ?_ | refine z5 ?_ | refine z6 ?_ | refine z7 ?_ | refine z8 ?_ | refine y1 ?_ | refine y2 ?_ | refine y3 ?_ | refine y4 ?_ | refine y5 ?_ | refine y6 ?_ | refine y7 ?_ | refine y8 ?_ | refine Rt.p (fun _ => ?_) fun _ => ?_)
      | ((with_reducible apply w_ixM); (focus exact rfl); (focus exact rfl); case' hk => intro y hy) | ((with_reducible (first | apply w_val | apply q_ends)); (focus exact rfl)))
    have : pb = [] := List.length_eq_zero_iff.1 (by omega)
    subst this
    refine congrArg AV.bool ?_; symm; rw [decide_eq_true_eq, ha, hb]
  | cons x pa =>
    cases pb with
    | nil => exfalso; simp only [List.length_nil, List.length_cons] at hla hlb; omega
    | cons y pb =>
      simp only [List.length_cons] at hla hlb
      have hE := eq_c x y (hs x (by rw [ha]; simp))
      repeat' (first
        | with_reducible (first | refine Rd.p ?_ | refine w_alt ?_ ?_ | refine zE ?_ | refine zE0 ?_)
        | (first | refine w_ixP ha rfl rfl ?_ | refine w_ixP hb rfl rfl ?_)
        | with_reducible (first | refine zI fun y hy => ?_ | refine zL ?_ | refine zS ?_ | refine zA fun _ => ?_ | refine zV ?_ | refine zC ?_ | refine zG ?_ | refine zU ?_ | refine zG0 ?_ | refine zU0 ?_ | refine zF ?_)
        | ((with_reducible refine acall_id ?_); refine ACall.val hE rfl rfl ?_)
        | with_reducible (first | refine zX ?_ | refine zD fun _ => ?_ | refine zD0 ?_ | refine zN ?_ | refine zF0 ?_ | refine zX0 ?_ | refine z1 ?_ | refine z2 ?_ | refine z3 ?_ | refine z4 ?_ | refine z5 ?_ | refine z6 ?_ | refine z7 ?_ | refine z8 ?_ | refine y1 ?_ | refine y2 ?_ | refine y3 ?_ | refine y4 ?_ | refine y5 ?_ | refine y6 ?_ | refine y7 ?_ | refine y8 ?_ | refine Rt.p (fun _ => ?_) fun _ => ?_)
        | ((with_reducible apply w_ixM); (focus exact rfl); (focus exact rfl); case' hk => intro y hy) | ((with_reducible (first | apply w_val | apply q_ends)); (focus exact rfl)))
      · rename_i h
        refine congrArg AV.bool ?_; symm
        rw [decide_eq_false_iff_not]; intro e
        rw [ha, hb] at e
        have := List.append_cancel_left e
        simp at this
        exact h this.1
      · rename_i h
        subst h
        refine zQ (pre ++ [x], pa, pb) ?_ ?_
        · exact ⟨by rw [ha]; simp, by rw [hb]; simp⟩
        · simp
theorem lists9_c (l : List (List Int)) (hl : l.length < 1000000) (hs : ∀ x ∈ l, x.length < 2 ^ 40) : Fn0 Try.prog 91 [.slc 1 (llR l) .non] (fun v => v = .slc 1 (llR l) .non) := by
  refine RawC.walk (H := hint91 Try.prog) ir91 Try.func91 rfl rfl rfl ?_
  unfold ir91
  repeat' (first
    | with_reducible (first | refine Rd.p ?_ | refine w_alt ?_ ?_ | refine zE ?_ | refine zE0 ?_)
    | with_reducible (first | refine zI fun y hy => ?_ | refine zL ?_ | refine zS ?_ | refine zA fun _ => ?_ | refine zV ?_ | refine zC ?_ | refine zG ?_ | refine zU ?_ | refine zG0 ?_ | refine zU0 ?_ | refine zF ?_)
    | with_reducible (first | refine zX ?_ | refine zD fun _ => ?_ | refine zD0 ?_ | refine zN ?_ | refine zF0 ?_ | refine zX0 ?_ | refine z1 ?_ | refine z2 ?_ | refine z3 ?_ | refine z4 ?_ | refine z5 ?_ | refine z6 ?_ | refine z7 ?_ | refine z8 ?_ | refine y1 ?_ | refine y2 ?_ | refine y3 ?_ | refine y4 ?_ | refine y5 ?_ | refine y6 ?_ | refine y7 ?_ | refine y8 ?_ | refine Rt.p (fun _ => ?_) fun _ => ?_)
    | ((with_reducible apply w_ixM); (focus exact rfl); (focus exact rfl); case' hk => intro y hy) | ((with_reducible (first | apply w_val | apply q_ends)); (focus exact rfl)))
  rename_i g3
  refine w_loopK [0] [] (fun x : List (List Int) × List (List Int) × Nat => l = x.1 ++ x.2.1) (fun x => x.2.1.length) (fun x => [(4, .int .i64 x.1.length), (3, .slc 1 (llR x.1) (.own 3 x.2.2))]) (fun x => [(3, (x.2.2, .row []))]) ([], l, g3) rfl ⟨rfl, rfl, trivial⟩ (by exact ⟨rfl, trivial⟩) ?_
  rintro ⟨pre, post, g⟩ hpp e σ
  dsimp only at hpp ⊢
  have hlen := congrArg List.length hpp
  rw [List.length_append] at hlen
  cases post with
  | nil =>
    simp only [List.length_nil] at hlen
    rw [List.append_nil] at hpp
    repeat' (first
      | with_reducible (first | refine Rd.p ?_ | refine w_alt ?_ ?_ | refine zE ?_ | refine zE0 ?_)
      | with_reducible (first | refine zI fun y hy => ?_ | refine zL ?_ | refine zS ?_ | refine zA fun _ => ?_ | refine zV ?_ | refine zC ?_ | refine zG ?_ | refine zU ?_ | refine zG0 ?_ | refine zU0 ?_ | refine zF ?_)
      | with_reducible (first | refine zX ?_ | refine zD fun _ => ?_ | refine zD0 ?_ | refine zN ?_ | refine zF0 ?_ | refine zX0 ?_ | refine z1 ?_ | refine z2 ?_ | refine z3 ?_ | refine z4 ?_ | refine z5 ?_ | refine z6 ?_ | refine z7 ?_ | refine z8 ?_ | refine y1 ?_ | refine y2 ?_ | refine y3 ?_ | refine y4 ?_ | refine y5 ?_ | refine y6 ?_ | refine y7 ?_ | refine y8 ?_ | refine Rt.p (fun _ => ?_) fun _ => ?_)
      | ((with_reducible apply w_ixM); (focus exact rfl); (focus exact rfl); case' hk => intro y hy) | ((with_reducible (first | apply w_val | apply q_ends)); (focus exact rfl)))
    rw [hpp]; rfl
  | cons y post =>
    simp only [List.length_cons] at hlen
    have hy := ints_c y (hs y (by rw [hpp]; simp))
    have hsn : (pre ++ [y]).length = pre.length + 1 := by simp
    repeat' (first
      | with_reducible (first | refine Rd.p ?_ | refine w_alt ?_ ?_ | refine zE ?_ | refine zE0 ?_)
      | (refine w_ixP hpp rfl rfl ?_)
      | with_reducible (first | refine zI fun y hy => ?_ | refine zL ?_ | refine zS ?_ | refine zA fun _ => ?_ | refine zV ?_ | refine zC ?_ | refine zG ?_ | refine zU ?_ | refine zG0 ?_ | refine zU0 ?_ | refine zF ?_)
      | ((with_reducible refine acall_id ?_); refine ACall.val hy rfl rfl ?_)
      | with_reducible (first | refine zX ?_ | refine zD fun _ => ?_ | refine zD0 ?_ | refine zN ?_ | refine zF0 ?_ | refine zX0 ?_ | refine z1 ?_ | refine z2 ?_ | refine z3 ?_ | refine z4 ?_ | refine z5 ?_ | refine z6 ?_ | refine z7 ?_ | refine z8 ?_ | refine y1 ?_ | refine y2 ?_ | refine y3 ?_ | refine y4 ?_ | refine y5 ?_ | refine y6 ?_ | refine y7 ?_ | refine y8 ?_ | refine Rt.p (fun _ => ?_) fun _ => ?_)
      | ((with_reducible apply w_ixM); (focus exact rfl); (focus exact rfl); case' hk => intro y hy) | ((with_reducible (first | apply w_val | apply q_ends)); (focus exact rfl)))
    refine q_loop (pre ++ [y], post, _) (by show l = _; rw [hpp]; simp) (by simp) (slots_cons (by show AV.int .i64 _ = AV.int .i64 _; refine int_eq ?_; simp) (slots_cons rfl slots_nil)) (by exact ⟨rfl, trivial⟩) (by repeat' (first | exact kept_nil | apply kept_cons | rfl)) (by repeat' (first | exact kept_nil | apply kept_cons | rfl))
/-- A season that is not too large. -/
structure Sml (s : Sea) : Prop where
  ss : s.ss.length ≤ 20
  gs : s.gs.length ≤ 20
  g : ∀ l ∈ s.gs, l.length ≤ 20
theorem ownSeason_c (s : Sea) (h : Sml s) : Fn0 Try.prog 43 [seA s] (fun v => v = seA s) := by
  have h1 := ints_c s.ss (by have := h.ss; omega)
  have h2 := lists9_c s.gs (by have := h.gs; omega) (fun l hl => by have := h.g l hl; omega)
  refine RawC.walk (H := hint43 Try.prog) ir43 Try.func43 rfl rfl rfl ?_
  unfold ir43
  repeat' (first
    | with_reducible (first | refine Rd.p ?_ | refine w_alt ?_ ?_ | refine zE ?_ | refine zE0 ?_)
    | with_reducible (first | refine zI fun y hy => ?_ | refine zL ?_ | refine zS ?_ | refine zA fun _ => ?_ | refine zV ?_ | refine zC ?_ | refine zG ?_ | refine zU ?_ | refine zG0 ?_ | refine zU0 ?_ | refine zF ?_)
    | ((with_reducible refine acall_id ?_); refine ACall.val h1 rfl rfl ?_)
    | ((with_reducible refine acall_id ?_); refine ACall.val h2 rfl rfl ?_)
    | with_reducible (first | refine zX ?_ | refine zD fun _ => ?_ | refine zD0 ?_ | refine zN ?_ | refine zF0 ?_ | refine zX0 ?_ | refine z1 ?_ | refine z2 ?_ | refine z3 ?_ | refine z4 ?_ | refine z5 ?_ | refine z6 ?_ | refine z7 ?_ | refine z8 ?_ | refine y1 ?_ | refine y2 ?_ | refine y3 ?_ | refine y4 ?_ | refine y5 ?_ | refine y6 ?_ | refine y7 ?_ | refine y8 ?_ | refine Rt.p (fun _ => ?_) fun _ => ?_)
    | ((with_reducible apply w_ixM); (focus exact rfl); (focus exact rfl); case' hk => intro y hy) | ((with_reducible (first | apply w_val | apply q_ends)); (focus exact rfl)))
  rfl
theorem eqSeasons_c (s : Sea) (h : Sml s) : Fn0 Try.prog 48 [seA s, seA s] (fun v => v = .bool true) := by
  have h1 := eq_c s.ss s.ss (by have := h.ss; omega)
  have h2 := eqLL9_c s.gs s.gs (by have := h.gs; omega) (fun l hl => by have := h.g l hl; omega)
  rw [decide_eq_true rfl] at h1 h2
  refine RawC.walk (H := hint48 Try.prog) ir48 Try.func48 rfl rfl rfl ?_
  unfold ir48
  repeat' (first
    | with_reducible (first | refine Rd.p ?_ | refine w_alt ?_ ?_ | refine zE ?_ | refine zE0 ?_)
    | with_reducible (first | refine zI fun y hy => ?_ | refine zL ?_ | refine zS ?_ | refine zA fun _ => ?_ | refine zV ?_ | refine zC ?_ | refine zG ?_ | refine zU ?_ | refine zG0 ?_ | refine zU0 ?_ | refine zF ?_)
    | ((with_reducible refine acall_id ?_); refine ACall.val h1 rfl rfl ?_)
    | ((with_reducible refine acall_id ?_); refine ACall.val h2 rfl rfl ?_)
    | with_reducible (first | refine zX ?_ | refine zD fun _ => ?_ | refine zD0 ?_ | refine zN ?_ | refine zF0 ?_ | refine zX0 ?_ | refine z1 ?_ | refine z2 ?_ | refine z3 ?_ | refine z4 ?_ | refine z5 ?_ | refine z6 ?_ | refine z7 ?_ | refine z8 ?_ | refine y1 ?_ | refine y2 ?_ | refine y3 ?_ | refine y4 ?_ | refine y5 ?_ | refine y6 ?_ | refine y7 ?_ | refine y8 ?_ | refine Rt.p (fun _ => ?_) fun _ => ?_)
    | ((with_reducible apply w_ixM); (focus exact rfl); (focus exact rfl); case' hk => intro y hy) | ((with_reducible (first | apply w_val | apply q_ends)); (focus exact rfl)))
  rfl
/-- Whether a season is too large. -/
def vastB (s : Sea) : Bool := (s.gs.any fun l => decide (20 < l.length)) || (decide (20 < s.ss.length) || decide (20 < s.gs.length))
theorem vastB_f {s : Sea} (h : vastB s = false) : Sml s := by
  unfold vastB at h
  rw [Bool.or_eq_false_iff, Bool.or_eq_false_iff, decide_eq_false_iff_not, decide_eq_false_iff_not, List.any_eq_false] at h
  exact ⟨by omega, by omega, fun l hl => by have := h.1 l hl; simp at this; omega⟩
theorem vast_c (s : Sea) (h1 : s.ss.length < 2 ^ 63) (h2 : s.gs.length < 2 ^ 63) (h3 : ∀ l ∈ s.gs, l.length < 2 ^ 63) : Fn0 Try.prog 41 [seA s] (fun v => v = .bool (vastB s)) := by
  refine RawC.walk (H := hint41 Try.prog) ir41 Try.func41 rfl rfl rfl ?_
  unfold ir41
  repeat' (first
    | with_reducible (first | refine Rd.p ?_ | refine w_alt ?_ ?_ | refine zE ?_ | refine zE0 ?_)
    | with_reducible (first | refine zI fun y hy => ?_ | refine zL ?_ | refine zS ?_ | refine zA fun _ => ?_ | refine zV ?_ | refine zC ?_ | refine zG ?_ | refine zU ?_ | refine zG0 ?_ | refine zU0 ?_ | refine zF ?_)
    | with_reducible (first | refine zX ?_ | refine zD fun _ => ?_ | refine zD0 ?_ | refine zN ?_ | refine zF0 ?_ | refine zX0 ?_ | refine z1 ?_ | refine z2 ?_ | refine z3 ?_ | refine z4 ?_ | refine z5 ?_ | refine z6 ?_ | refine z7 ?_ | refine z8 ?_ | refine y1 ?_ | refine y2 ?_ | refine y3 ?_ | refine y4 ?_ | refine y5 ?_ | refine y6 ?_ | refine y7 ?_ | refine y8 ?_ | refine Rt.p (fun _ => ?_) fun _ => ?_)
    | ((with_reducible apply w_ixM); (focus exact rfl); (focus exact rfl); case' hk => intro y hy) | ((with_reducible (first | apply w_val | apply q_ends)); (focus exact rfl)))
  rename_i g1
  refine w_loopK [1] [1] (fun x : List (List Int) × List (List Int) => s.gs = x.1 ++ x.2 ∧ (x.1.any fun l => decide (20 < l.length)) = false) (fun x => x.2.length) (fun x => [(3, .int .i64 x.1.length)]) (fun _ => []) ([], s.gs) ⟨rfl, rfl⟩ ⟨rfl, trivial⟩ trivial ?_
  rintro ⟨pre, post⟩ ⟨hpp, hb⟩ e σ
  dsimp only at hpp hb ⊢
  have hlen := congrArg List.length hpp
  rw [List.length_append] at hlen
  cases post with
  | nil =>
    simp only [List.length_nil] at hlen
    rw [List.append_nil] at hpp
    have hv : vastB s = (decide (20 < s.ss.length) || decide (20 < s.gs.length)) := by
      rw [vastB, show (s.gs.any fun l => decide (20 < l.length)) = false by rw [hpp]; exact hb, Bool.false_or]
    rw [hv]
    repeat' (first
      | with_reducible (first | refine Rd.p ?_ | refine w_alt ?_ ?_ | refine zE ?_ | refine zE0 ?_)
      | with_reducible (first | refine zI fun y hy => ?_ | refine zL ?_ | refine zS ?_ | refine zA fun _ => ?_ | refine zV ?_ | refine zC ?_ | refine zG ?_ | refine zU ?_ | refine zG0 ?_ | refine zU0 ?_ | refine zF ?_)
      | with_reducible (first | refine zX ?_ | refine zD fun _ => ?_ | refine zD0 ?_ | refine zN ?_ | refine zF0 ?_ | refine zX0 ?_ | refine z1 ?_ | refine z2 ?_ | refine z3 ?_ | refine z4 ?_ | refine z5 ?_ | refine z6 ?_ | refine z7 ?_ | refine z8 ?_ | refine y1 ?_ | refine y2 ?_ | refine y3 ?_ | refine y4 ?_ | refine y5 ?_ | refine y6 ?_ | refine y7 ?_ | refine y8 ?_ | refine Rt.p (fun _ => ?_) fun _ => ?_)
      | ((with_reducible apply w_ixM); (focus exact rfl); (focus exact rfl); case' hk => intro y hy) | ((with_reducible (first | apply w_val | apply q_ends)); (focus exact rfl)))
    · rename_i h; refine congrArg AV.bool ?_; rw [decide_eq_true (show 20 < s.ss.length by omega)]; rfl
    · rename_i h; refine congrArg AV.bool ?_; rw [decide_eq_false (show ¬ 20 < s.ss.length by omega), Bool.false_or]; rw [Bool.eq_iff_iff, decide_eq_true_eq, decide_eq_true_eq]; omega
  | cons y post =>
    simp only [List.length_cons] at hlen
    have hy := h3 y (by rw [hpp]; simp)
    repeat' (first
      | with_reducible (first | refine Rd.p ?_ | refine w_alt ?_ ?_ | refine zE ?_ | refine zE0 ?_)
      | (refine w_ixP hpp rfl rfl ?_)
      | with_reducible (first | refine zI fun y hy => ?_ | refine zL ?_ | refine zS ?_ | refine zA fun _ => ?_ | refine zV ?_ | refine zC ?_ | refine zG ?_ | refine zU ?_ | refine zG0 ?_ | refine zU0 ?_ | refine zF ?_)
      | with_reducible (first | refine zX ?_ | refine zD fun _ => ?_ | refine zD0 ?_ | refine zN ?_ | refine zF0 ?_ | refine zX0 ?_ | refine z1 ?_ | refine z2 ?_ | refine z3 ?_ | refine z4 ?_ | refine z5 ?_ | refine z6 ?_ | refine z7 ?_ | refine z8 ?_ | refine y1 ?_ | refine y2 ?_ | refine y3 ?_ | refine y4 ?_ | refine y5 ?_ | refine y6 ?_ | refine y7 ?_ | refine y8 ?_ | refine Rt.p (fun _ => ?_) fun _ => ?_)
      | ((with_reducible apply w_ixM); (focus exact rfl); (focus exact rfl); case' hk => intro y hy) | ((with_reducible (first | apply w_val | apply q_ends)); (focus exact rfl)))
    · rename_i h
      refine congrArg AV.bool ?_
      symm
      rw [vastB, Bool.or_eq_true]
      exact .inl (List.any_eq_true.2 ⟨y, by rw [hpp]; simp, decide_eq_true (by omega)⟩)
    · rename_i h
      refine q_loop (pre ++ [y], post) ⟨by show s.gs = _; rw [hpp]; simp, by rw [List.any_append, hb]; simp; omega⟩ (by simp) (slots_cons (by show AV.int .i64 _ = AV.int .i64 _; refine int_eq ?_; simp) slots_nil) trivial (by repeat' (first | exact kept_nil | apply kept_cons | rfl)) (by repeat' (first | exact kept_nil | apply kept_cons | rfl))
end Go.Abs
