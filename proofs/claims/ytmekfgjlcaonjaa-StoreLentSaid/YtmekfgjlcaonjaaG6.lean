/- A part of the proofs of the laws of this seat: contracts of the functions that they reach, each proved of the program's form in Lean. No condition beyond those that each contract names. -/
import Derived.Test.YtmekfgjlcaonjaaG5
import Derived.Test.YtmekfgjlcaonjaaG4
import Derived.Test.YtmekfgjlcaonjaaG3
import Derived.Test.YtmekfgjlcaonjaaG2
import Derived.Test.YtmekfgjlcaonjaaG1
import Derived.Test.YtmekfgjlcaonjaaD8
import Derived.Test.YtmekfgjlcaonjaaC14
import Derived.Test.YtmekfgjlcaonjaaC13
import Derived.Test.YtmekfgjlcaonjaaC12
import Derived.Test.YtmekfgjlcaonjaaC11
import Derived.Test.YtmekfgjlcaonjaaC10
import Derived.Test.YtmekfgjlcaonjaaC9
import Derived.Test.YtmekfgjlcaonjaaC8
import Derived.Test.YtmekfgjlcaonjaaC7
import Derived.Test.YtmekfgjlcaonjaaC5
import Derived.Test.YtmekfgjlcaonjaaC4
import Derived.Test.YtmekfgjlcaonjaaC2
import Derived.Test.YtmekfgjlcaonjaaC1
import Derived.Test.YtmekfgjlcaonjaaB
set_option linter.unusedVariables false
set_option linter.unusedSimpArgs false
set_option maxRecDepth 20000
set_option maxHeartbeats 4000000
namespace Go.Abs
open Go.Proofs
/-- aloeswood/aloeswoodkit.LoansOf -/
def ir65 : IFn :=
  ⟨37, [(4, none)], (.seq (.ops [⟨(some 4), none, (.mov (.k .nsl))⟩])
  (.seq (.ops [⟨(some 5), none, (.nil 4 5)⟩])
  (.seq (.seq (.ops [⟨(some 8), none, (.mov (.t 0))⟩,
    ⟨(some 9), none, (.mov (.t 1))⟩,
    ⟨(some 10), none, (.bin .add (.t 9) (.k (.int .i64 1)))⟩,
    ⟨(some 11), none, (.callF 20 [(.t 8), (.t 10)])⟩,
    ⟨(some 6), none, (.mov (.t 11))⟩])
  (.blk 0 (.loop (.seq (.seq (.ops [⟨(some 12), none, (.mov (.t 6))⟩,
        ⟨(some 13), none, (.bin .gtr (.t 12) (.k (.int .i64 0)))⟩])
      (.cnd (.t 13)
        .skip
        (.exit 0)))
      (.seq (.blk 1 (.seq (.ops [⟨(some 16), none, (.mov (.t 0))⟩,
          ⟨(some 17), none, (.callF 20 [(.t 16), (.k (.int .i64 20))])⟩,
          ⟨(some 7), none, (.mov (.t 17))⟩])
        (.ops [⟨(some 18), none, (.mov (.t 5))⟩,
          ⟨(some 19), none, (.mov (.t 0))⟩,
          ⟨(some 20), none, (.callF 20 [(.t 19), (.k (.int .i64 3))])⟩,
          ⟨(some 21), none, (.mov (.t 7))⟩,
          ⟨(some 22), none, (.mov (.t 7))⟩,
          ⟨(some 23), none, (.mov (.t 0))⟩,
          ⟨(some 24), none, (.callF 20 [(.t 23), (.k (.int .i64 8))])⟩,
          ⟨(some 25), none, (.bin .add (.t 22) (.t 24))⟩,
          ⟨(some 26), none, (.mov (.t 0))⟩,
          ⟨(some 27), none, (.mov (.t 0))⟩,
          ⟨(some 28), none, (.callF 20 [(.t 27), (.k (.int .i64 4))])⟩,
          ⟨(some 29), none, (.mov (.t 0))⟩,
          ⟨(some 30), none, (.callF 20 [(.t 29), (.k (.int .i64 20))])⟩,
          ⟨(some 31), none, (.bsl 1 [[(.int .i64 0)], [(.int .i64 0)], [(.int .i64 0)]] [(0, (.k (.int .i64 0))), (1, (.t 28)), (2, (.t 30))])⟩,
          ⟨(some 32), none, (.callF 90 [(.t 26), (.t 31)])⟩,
          ⟨(some 33), none, (.bld [(.int .i64 0), (.int .i64 0), (.int .i64 0), (.int .i64 0)] [(0, 1, (.t 20)), (1, 1, (.t 21)), (2, 1, (.t 25)), (3, 1, (.t 32))])⟩,
          ⟨(some 34), none, (.bsl 4 [[(.int .i64 0), (.int .i64 0), (.int .i64 0), (.int .i64 0)]] [(0, (.t 33))])⟩,
          ⟨(some 35), none, (.app 4 32 (.t 18) (.t 34) 5)⟩,
          ⟨(some 5), none, (.mov (.t 35))⟩])))
      (.ops [⟨(some 14), none, (.mov (.t 6))⟩,
        ⟨(some 15), none, (.bin .sub (.t 14) (.k (.int .i64 1)))⟩,
        ⟨(some 6), none, (.mov (.t 15))⟩]))))))
  (.seq (.ops [⟨(some 36), none, (.mov (.t 5))⟩,
    ⟨(some 4), none, (.mov (.t 36))⟩])
  .ret))))⟩
def hint65 (P : Program) : Hint := { site := [(35, 5)], nils := [(5, 4)], frz := [], mve := [], wr := [] }
/-- aloeswood/aloeswoodkit.OwnLoans -/
def ir66 : IFn :=
  ⟨6, [(2, none)], (.seq (.ops [⟨(some 2), none, (.nil 4 2)⟩])
  (.seq (.ops [⟨(some 3), none, (.bsl 4 [] [])⟩,
    ⟨(some 4), none, (.mov (.t 0))⟩,
    ⟨(some 5), none, (.app 4 32 (.t 3) (.t 4) 2)⟩,
    ⟨(some 2), none, (.mov (.t 5))⟩])
  .ret))⟩
def hint66 (P : Program) : Hint := { site := [(5, 2)], nils := [(2, 4)], frz := [], mve := [], wr := [] }
theorem lonsE_of : ∀ {l : List Lon}, (∀ x ∈ l, lonE x = 0) → lonsE l = 0
  | [], _ => rfl
  | x :: r, h => by
    rw [lonsE, if_pos (h x (by simp))]
    exact lonsE_of fun y hy => h y (by simp [hy])
theorem lonE_of {g : Lon} (h1 : 0 ≤ g.th ∧ g.th ≤ 49) (h2 : 0 ≤ g.fr ∧ g.fr ≤ g.to ∧ g.to ≤ 100000) (h3 : 0 ≤ g.wo ∧ g.wo ≤ 1000) : lonE g = 0 := by
  unfold lonE
  rw [if_pos (by simp only [Bool.and_eq_true, inB_t]; omega), if_neg (by omega)]
theorem loansOf_c (g : Nat) (w : Int) (k : Int) (hk : 0 ≤ k ∧ k ≤ 12) : RawC Try.prog 65 [.ref 1000 g 0, .int .i64 k] (BoxS g w) (BoxR g fun av => ∃ l : List Lon, av = .slc 4 (oR l) .non ∧ l.length ≤ k ∧ ∀ x ∈ l, lonE x = 0) := by
  refine RawC.walk (H := hint65 Try.prog) ir65 Try.func65 rfl rfl rfl ?_
  unfold ir65
  repeat' (first
    | with_reducible (first | refine Rd.p ?_ | refine w_alt ?_ ?_ | refine zE ?_ | refine zE0 ?_)
    | with_reducible (first | refine zI fun y hy => ?_ | refine zL ?_ | refine zS ?_ | refine zA fun _ => ?_ | refine zV ?_ | refine zC ?_ | refine zG ?_ | refine zU ?_ | refine zG0 ?_ | refine zU0 ?_ | refine zF ?_)
    | ((with_reducible refine acall_id ?_); refine ACall.box (upp_c _ _ (k + 1) (by omega) (by omega)) rfl rfl rfl ?_; rintro _ _ ⟨n, rfl, hn1, hn2⟩)
    | with_reducible (first | refine zX ?_ | refine zD fun _ => ?_ | refine zD0 ?_ | refine zN ?_ | refine zF0 ?_ | refine zX0 ?_ | refine z1 ?_ | refine z2 ?_ | refine z3 ?_ | refine z4 ?_ | refine z5 ?_ | refine z6 ?_ | refine z7 ?_ | refine z8 ?_ | refine y1 ?_ | refine y2 ?_ | refine y3 ?_ | refine y4 ?_ | refine y5 ?_ | refine y6 ?_ | refine y7 ?_ | refine y8 ?_ | refine Rt.p (fun _ => ?_) fun _ => ?_)
    | ((with_reducible apply w_ixM); (focus exact rfl); (focus exact rfl); case' hk => intro y hy) | ((with_reducible (first | apply w_val | apply q_ends)); (focus exact rfl)))
  rename_i g5 w1
  refine w_loopK [0] [] (fun x : List Lon × Nat × Int => x.1.length ≤ n ∧ ∀ y ∈ x.1, lonE y = 0) (fun x => (n - x.1.length).toNat) (fun x => [(6, .int .i64 (n - x.1.length)), (5, .slc 4 (oR x.1) (.own 5 x.2.1))])
    (fun x => [(1000, (g, .row [.int .u64 x.2.2])), (5, (x.2.1, .row []))]) ([], g5, w1) ⟨by show ((([] : List Lon).length : Nat) : Int) ≤ n; simp; omega, fun y hy => by cases hy⟩ ⟨by show AV.int .i64 _ = AV.int .i64 _; refine int_eq ?_; simp, rfl, trivial⟩ (by exact ⟨rfl, rfl, trivial⟩) ?_
  rintro ⟨xs, g5, w⟩ ⟨hl, hx⟩ e σ
  dsimp only at hl hx ⊢
  by_cases hlt : (xs.length : Int) < n
  · have hsn : ∀ z, (xs ++ [z]).length = xs.length + 1 := fun z => by simp
    repeat' (first
      | with_reducible (first | refine Rd.p ?_ | refine w_alt ?_ ?_ | refine zE ?_ | refine zE0 ?_)
      | with_reducible (first | refine zI fun y hy => ?_ | refine zL ?_ | refine zS ?_ | refine zA fun _ => ?_ | refine zV ?_ | refine zC ?_ | refine zG ?_ | refine zU ?_ | refine zG0 ?_ | refine zU0 ?_ | refine zF ?_)
      | ((with_reducible refine acall_id ?_); refine ACall.box (upp_c _ _ 20 (by omega) (by omega)) rfl rfl rfl ?_; rintro _ _ ⟨z, rfl, hz1, hz2⟩)
      | ((with_reducible refine acall_id ?_); refine ACall.box (upp_c _ _ 3 (by omega) (by omega)) rfl rfl rfl ?_; rintro _ _ ⟨z3, rfl, hz3, hz4⟩)
      | ((with_reducible refine acall_id ?_); refine ACall.box (upp_c _ _ 8 (by omega) (by omega)) rfl rfl rfl ?_; rintro _ _ ⟨z5, rfl, hz5, hz6⟩)
      | ((with_reducible refine acall_id ?_); refine ACall.box (upp_c _ _ 4 (by omega) (by omega)) rfl rfl rfl ?_; rintro _ _ ⟨z7, rfl, hz7, hz8⟩)
      | ((with_reducible refine acall_id ?_); refine ACall.box (pick_c _ _ [0, _, _] (by simp) (by simp)) rfl rfl rfl ?_; rintro _ _ ⟨p, rfl, hp⟩)
      | with_reducible (first | refine zX ?_ | refine zD fun _ => ?_ | refine zD0 ?_ | refine zN ?_ | refine zF0 ?_ | refine zX0 ?_ | refine z1 ?_ | refine z2 ?_ | refine z3 ?_ | refine z4 ?_ | refine z5 ?_ | refine z6 ?_ | refine z7 ?_ | refine z8 ?_ | refine y1 ?_ | refine y2 ?_ | refine y3 ?_ | refine y4 ?_ | refine y5 ?_ | refine y6 ?_ | refine y7 ?_ | refine y8 ?_ | refine Rt.p (fun _ => ?_) fun _ => ?_)
      | ((with_reducible apply w_ixM); (focus exact rfl); (focus exact rfl); case' hk => intro y hy) | ((with_reducible (first | apply w_val | apply q_ends)); (focus exact rfl)))
    rename_i _ z0 hz01 hz02 _ _ _ _ _ _
    refine q_loop (xs ++ [⟨z3, z0, z0 + z5, p⟩], _, _) ⟨by dsimp only; rw [hsn]; omega, fun y hy => ?_⟩ (by dsimp only; rw [hsn]; omega) (slots_cons (by show AV.int .i64 _ = AV.int .i64 _; refine int_eq ?_; dsimp only; rw [hsn]; omega) (slots_cons (by simp; rfl) slots_nil)) (by exact ⟨rfl, rfl, trivial⟩) (by repeat' (first | exact kept_nil | apply kept_cons | rfl)) (by repeat' (first | exact kept_nil | apply kept_cons | rfl))
    rcases List.mem_append.1 hy with hy | hy
    · exact hx y hy
    · rw [List.mem_singleton] at hy
      subst hy
      simp only [List.mem_cons, List.not_mem_nil, or_false] at hp
      exact lonE_of (by dsimp only; omega) (by dsimp only; omega) (by dsimp only; omega)
  · repeat' (first
      | with_reducible (first | refine Rd.p ?_ | refine w_alt ?_ ?_ | refine zE ?_ | refine zE0 ?_)
      | with_reducible (first | refine zI fun y hy => ?_ | refine zL ?_ | refine zS ?_ | refine zA fun _ => ?_ | refine zV ?_ | refine zC ?_ | refine zG ?_ | refine zU ?_ | refine zG0 ?_ | refine zU0 ?_ | refine zF ?_)
      | with_reducible (first | refine zX ?_ | refine zD fun _ => ?_ | refine zD0 ?_ | refine zN ?_ | refine zF0 ?_ | refine zX0 ?_ | refine z1 ?_ | refine z2 ?_ | refine z3 ?_ | refine z4 ?_ | refine z5 ?_ | refine z6 ?_ | refine z7 ?_ | refine z8 ?_ | refine y1 ?_ | refine y2 ?_ | refine y3 ?_ | refine y4 ?_ | refine y5 ?_ | refine y6 ?_ | refine y7 ?_ | refine y8 ?_ | refine Rt.p (fun _ => ?_) fun _ => ?_)
      | ((with_reducible apply w_ixM); (focus exact rfl); (focus exact rfl); case' hk => intro y hy) | ((with_reducible (first | apply w_val | apply q_ends)); (focus exact rfl)))
    exact ⟨_, ⟨xs, rfl, by omega, hx⟩, rfl⟩
theorem Sub.tupG {l m : List AV} (h : SubL l m) : Sub (.tup l) (.tup m) := fun G v ⟨vs, h1, h2⟩ => ⟨vs, h1, SubL.rel h h2⟩
theorem bS_sub {b : List Int} {o : Option Unit} (h : o = none → b = []) : Sub (bS b o) (.slc 1 (iR b) .non) := by
  rcases o with _ | u
  · obtain rfl := h rfl
    exact Sub.nil
  · exact Sub.refl _
theorem Lend_w (l : List Lon) (hl : l.length < 2 ^ 62) : Fn0 Try.prog 67 [.slc 4 (oR l) .non] (fun v => v = .tup [.slc 1 (iR (lendV l).1) .non, .int .i64 (lendV l).2, .int .i64 (lendE l)]) :=
  RawC.sub (Lend_s l hl) fun a _ ⟨o, ho, h⟩ => ⟨_, by rw [h]; exact Sub.tupG (.cons (bS_sub ho) (.cons (Sub.refl _) (.cons (Sub.refl _) .nil))), rfl⟩
end Go.Abs
