/- A part of the proofs of the laws of this seat: contracts of the functions that they reach, each proved of the program's form in Lean. No condition beyond those that each contract names. -/
import Derived.Test.YtmekfgjlcaonjaaE7
import Derived.Test.YtmekfgjlcaonjaaE5
import Derived.Test.YtmekfgjlcaonjaaE2
import Derived.Test.YtmekfgjlcaonjaaC14
import Derived.Test.YtmekfgjlcaonjaaC13
import Derived.Test.YtmekfgjlcaonjaaC12
import Derived.Test.YtmekfgjlcaonjaaC11
import Derived.Test.YtmekfgjlcaonjaaC10
import Derived.Test.YtmekfgjlcaonjaaC9
import Derived.Test.YtmekfgjlcaonjaaC8
import Derived.Test.YtmekfgjlcaonjaaC7
import Derived.Test.YtmekfgjlcaonjaaC5
import Derived.Test.YtmekfgjlcaonjaaC4
import Derived.Test.YtmekfgjlcaonjaaC2
import Derived.Test.YtmekfgjlcaonjaaC1
import Derived.Test.YtmekfgjlcaonjaaB
set_option linter.unusedVariables false
set_option linter.unusedSimpArgs false
set_option maxRecDepth 20000
set_option maxHeartbeats 4000000
namespace Go.Abs
open Go.Proofs
def bX (b : List Int) : Option (Option Nat) → AV
  | none => .nsl
  | some none => .slc 1 (iR b) .non
  | some (some g) => .slc 1 (iR b) (.own 38 g)
abbrev seX (s : Sea) (b : List Int) (o : Option (Option Nat)) (m : Int) : List AV := [.slc 1 (iR s.ss) .non, .slc 1 (llR s.gs) .non, .int .i64 (combF s.ss), bX b o, .int .i64 m]
/-- (*aloeswood/aloeswoodref09.search).fewest -/
def ir96 : IFn :=
  ⟨82, [], (.seq (.seq (.ops [⟨(some 12), none, (.mov (.t 0))⟩,
    ⟨(some 13), none, (.nck (.t 12))⟩,
    ⟨(some 14), none, (.flA 4 (.t 13))⟩,
    ⟨(some 15), none, (.ld 1 false (.t 14))⟩,
    ⟨(some 16), none, (.bin .geq (.t 15) (.k (.int .i64 0)))⟩,
    ⟨(some 17), none, (.mov (.t 16))⟩,
    ⟨(some 18), (some (17, true)), (.mov (.t 3))⟩,
    ⟨(some 19), (some (17, true)), (.mov (.t 0))⟩,
    ⟨(some 20), (some (17, true)), (.nck (.t 19))⟩,
    ⟨(some 21), (some (17, true)), (.flA 4 (.t 20))⟩,
    ⟨(some 22), (some (17, true)), (.ld 1 false (.t 21))⟩,
    ⟨(some 23), (some (17, true)), (.bin .geq (.t 18) (.t 22))⟩,
    ⟨(some 24), none, (.pick (.t 17) (.t 23) (.k (.bool false)))⟩])
  (.cnd (.t 24)
    .ret
    .skip))
  (.seq (.seq (.ops [⟨(some 25), none, (.mov (.t 1))⟩,
    ⟨(some 26), none, (.len false (.t 25))⟩,
    ⟨(some 27), none, (.mov (.t 0))⟩,
    ⟨(some 28), none, (.nck (.t 27))⟩,
    ⟨(some 29), none, (.flA 0 (.t 28))⟩,
    ⟨(some 30), none, (.flA 1 (.t 29))⟩,
    ⟨(some 31), none, (.ld 1 false (.t 30))⟩,
    ⟨(some 32), none, (.len false (.t 31))⟩,
    ⟨(some 33), none, (.bin .eql (.t 26) (.t 32))⟩])
  (.cnd (.t 33)
    (.seq (.ops [⟨(some 34), none, (.mov (.t 0))⟩,
      ⟨(some 35), none, (.mov (.t 0))⟩,
      ⟨(some 36), none, (.bsl 1 [] [])⟩,
      ⟨(some 37), none, (.mov (.t 1))⟩,
      ⟨(some 38), none, (.app 1 8 (.t 36) (.t 37) 38)⟩,
      ⟨(some 39), none, (.mov (.t 3))⟩,
      ⟨(some 40), none, (.nck (.t 34))⟩,
      ⟨(some 41), none, (.flA 3 (.t 40))⟩,
      ⟨none, none, (.st 1 (.t 41) (.t 38))⟩,
      ⟨(some 42), none, (.nck (.t 35))⟩,
      ⟨(some 43), none, (.flA 4 (.t 42))⟩,
      ⟨none, none, (.st 1 (.t 43) (.t 39))⟩])
    .ret)
    .skip))
  (.seq (.ops [⟨(some 8), none, (.mov (.k (.int .i64 0)))⟩])
  (.blk 0 (.loop (.seq (.seq (.ops [⟨(some 44), none, (.mov (.t 8))⟩,
        ⟨(some 45), none, (.mov (.t 2))⟩,
        ⟨(some 46), none, (.mov (.t 0))⟩,
        ⟨(some 47), none, (.nck (.t 46))⟩,
        ⟨(some 48), none, (.flA 2 (.t 47))⟩,
        ⟨(some 49), none, (.ld 1 false (.t 48))⟩,
        ⟨(some 50), none, (.bin .sub (.t 49) (.k (.int .i64 1)))⟩,
        ⟨(some 51), none, (.mxi false (.t 45) (.t 50))⟩,
        ⟨(some 52), none, (.bin .leq (.t 44) (.t 51))⟩])
      (.cnd (.t 52)
        .skip
        (.exit 0)))
      (.seq (.blk 1 (.seq (.ops [⟨(some 55), none, (.bsl 1 [] [])⟩,
          ⟨(some 56), none, (.mov (.t 1))⟩,
          ⟨(some 57), none, (.app 1 8 (.t 55) (.t 56) 57)⟩,
          ⟨(some 58), none, (.mov (.t 8))⟩,
          ⟨(some 59), none, (.bsl 1 [[(.int .i64 0)]] [(0, (.t 58))])⟩,
          ⟨(some 60), none, (.app 1 8 (.t 57) (.t 59) 9)⟩,
          ⟨(some 9), none, (.mov (.t 60))⟩])
        (.seq (.ops [⟨(some 62), none, (.mov (.t 0))⟩,
          ⟨(some 63), none, (.nck (.t 62))⟩,
          ⟨(some 64), none, (.flA 0 (.t 63))⟩,
          ⟨(some 65), none, (.ld 2 true (.t 64))⟩,
          ⟨(some 66), none, (.mov (.t 9))⟩,
          ⟨(some 67), none, (.mov (.t 1))⟩,
          ⟨(some 68), none, (.len false (.t 67))⟩,
          ⟨(some 69), none, (.callF 106 [(.t 65), (.t 66), (.t 68)])⟩,
          ⟨(some 61), none, (.mov (.t 69))⟩,
          ⟨(some 70), none, (.ext 0 (.t 61))⟩,
          ⟨(some 71), none, (.ext 1 (.t 61))⟩,
          ⟨(some 10), none, (.mov (.t 70))⟩,
          ⟨(some 11), none, (.mov (.t 71))⟩])
        (.ops [⟨(some 72), none, (.mov (.t 0))⟩,
          ⟨(some 73), none, (.mov (.t 9))⟩,
          ⟨(some 74), none, (.mov (.t 2))⟩,
          ⟨(some 75), none, (.mov (.t 8))⟩,
          ⟨(some 76), none, (.bin .add (.t 75) (.k (.int .i64 1)))⟩,
          ⟨(some 77), none, (.mxi true (.t 74) (.t 76))⟩,
          ⟨(some 78), none, (.mov (.t 3))⟩,
          ⟨(some 79), none, (.mov (.t 10))⟩,
          ⟨(some 80), none, (.bin .add (.t 78) (.t 79))⟩,
          ⟨(some 81), none, (.callF 96 [(.t 72), (.t 73), (.t 77), (.t 80)])⟩]))))
      (.ops [⟨(some 53), none, (.mov (.t 8))⟩,
        ⟨(some 54), none, (.bin .add (.t 53) (.k (.int .i64 1)))⟩,
        ⟨(some 8), none, (.mov (.t 54))⟩]))))))))⟩
def hint96 (P : Program) : Hint := { site := [(60, 9)], nils := [], frz := [], mve := [], wr := [] }
theorem rfew_s (s : Sea) (g : Nat) (he : seaE s = 0) : ∀ (k : Nat) (p : List Int) (r : Int) (b : List Int) (m : Int) (o : Option Unit), p.length + k = s.gs.length → (∀ x ∈ p, 0 ≤ x ∧ x < combF s.ss) → 0 ≤ r ∧ r ≤ 12 * p.length → (o = none → b = []) →
    RawC Try.prog 96 [.ref 1000 g 0, .slc 1 (iR p) .non, .int .i64 (usedF p), .int .i64 r] (sg [(1000, (g, .row (seX s b (o.map fun _ => none) m)))])
      (SR (fun (x : (List Int × Int) × Option (Option Nat)) v => v = .tup [] ∧ x.1 = growF s (want2 s) k p r (b, m) ∧ okB x.1.1 x.2) (fun x => [(1000, (g, .row (seX s x.1.1 x.2 x.1.2)))]))
  | 0, p, r, b, m, o, hk, hp, hr, hob => by
    have h9 := (okS_of he).g9
    have hl : p.length = s.gs.length := by omega
    by_cases h1 : 0 ≤ m ∧ m ≤ r
    · have hv : growF s (want2 s) 0 p r (b, m) = (b, m) := by rw [growF, want2, if_pos h1]
      rw [hv]
      have h1a := h1.1
      have h1b := h1.2
      rcases o with _ | u
      · obtain rfl := hob rfl
        refine RawC.walk (H := hint96 Try.prog) ir96 Try.func96 rfl rfl rfl ?_
        unfold ir96
        repeat' (first
          | with_reducible (first | refine Rd.p ?_ | refine w_alt ?_ ?_ | refine zE ?_ | refine zE0 ?_)
          | with_reducible (first | refine zI fun y hy => ?_ | refine zL ?_ | refine zS ?_ | refine zA fun _ => ?_ | refine zV ?_ | refine zC ?_ | refine zG ?_ | refine zU ?_ | refine zG0 ?_ | refine zU0 ?_ | refine zF ?_)
          | with_reducible (first | refine zX ?_ | refine zD fun _ => ?_ | refine zD0 ?_ | refine zN ?_ | refine zF0 ?_ | refine zX0 ?_ | refine z1 ?_ | refine z2 ?_ | refine z3 ?_ | refine z4 ?_ | refine z5 ?_ | refine z6 ?_ | refine z7 ?_ | refine z8 ?_ | refine y1 ?_ | refine y2 ?_ | refine y3 ?_ | refine y4 ?_ | refine y5 ?_ | refine y6 ?_ | refine y7 ?_ | refine y8 ?_ | refine Rt.p (fun _ => ?_) fun _ => ?_)
          | ((with_reducible apply w_ixM); (focus exact rfl); (focus exact rfl); case' hk => intro y hy) | ((with_reducible (first | apply w_val | apply q_ends)); (focus exact rfl)))
        exact ⟨(([], m), none), ⟨rfl, rfl, fun _ => rfl⟩, rfl, trivial⟩
      · refine RawC.walk (H := hint96 Try.prog) ir96 Try.func96 rfl rfl rfl ?_
        unfold ir96
        repeat' (first
          | with_reducible (first | refine Rd.p ?_ | refine w_alt ?_ ?_ | refine zE ?_ | refine zE0 ?_)
          | with_reducible (first | refine zI fun y hy => ?_ | refine zL ?_ | refine zS ?_ | refine zA fun _ => ?_ | refine zV ?_ | refine zC ?_ | refine zG ?_ | refine zU ?_ | refine zG0 ?_ | refine zU0 ?_ | refine zF ?_)
          | with_reducible (first | refine zX ?_ | refine zD fun _ => ?_ | refine zD0 ?_ | refine zN ?_ | refine zF0 ?_ | refine zX0 ?_ | refine z1 ?_ | refine z2 ?_ | refine z3 ?_ | refine z4 ?_ | refine z5 ?_ | refine z6 ?_ | refine z7 ?_ | refine z8 ?_ | refine y1 ?_ | refine y2 ?_ | refine y3 ?_ | refine y4 ?_ | refine y5 ?_ | refine y6 ?_ | refine y7 ?_ | refine y8 ?_ | refine Rt.p (fun _ => ?_) fun _ => ?_)
          | ((with_reducible apply w_ixM); (focus exact rfl); (focus exact rfl); case' hk => intro y hy) | ((with_reducible (first | apply w_val | apply q_ends)); (focus exact rfl)))
        exact ⟨((b, m), some none), ⟨rfl, rfl, fun h => by cases h⟩, rfl, trivial⟩
    · have hv : growF s (want2 s) 0 p r (b, m) = (p, r) := by rw [growF, want2, if_neg h1, if_pos hl]
      rw [hv]
      have hor : ¬ 0 ≤ m ∨ ¬ m ≤ r := by omega
      rcases o with _ | u
      · obtain rfl := hob rfl
        refine RawC.walk (H := hint96 Try.prog) ir96 Try.func96 rfl rfl rfl ?_
        unfold ir96
        repeat' (first
          | with_reducible (first | refine Rd.p ?_ | refine w_alt ?_ ?_ | refine zE ?_ | refine zE0 ?_)
          | with_reducible (first | refine zI fun y hy => ?_ | refine zL ?_ | refine zS ?_ | refine zA fun _ => ?_ | refine zV ?_ | refine zC ?_ | refine zG ?_ | refine zU ?_ | refine zG0 ?_ | refine zU0 ?_ | refine zF ?_)
          | with_reducible (first | refine zX ?_ | refine zD fun _ => ?_ | refine zD0 ?_ | refine zN ?_ | refine zF0 ?_ | refine zX0 ?_ | refine z1 ?_ | refine z2 ?_ | refine z3 ?_ | refine z4 ?_ | refine z5 ?_ | refine z6 ?_ | refine z7 ?_ | refine z8 ?_ | refine y1 ?_ | refine y2 ?_ | refine y3 ?_ | refine y4 ?_ | refine y5 ?_ | refine y6 ?_ | refine y7 ?_ | refine y8 ?_ | refine Rt.p (fun _ => ?_) fun _ => ?_)
          | ((with_reducible apply w_ixM); (focus exact rfl); (focus exact rfl); case' hk => intro y hy) | ((with_reducible (first | apply w_val | apply q_ends)); (focus exact rfl)))
        all_goals first | (exfalso; omega) | exact ⟨((p, r), some (some _)), ⟨rfl, rfl, fun h => by cases h⟩, rfl, trivial⟩
      · refine RawC.walk (H := hint96 Try.prog) ir96 Try.func96 rfl rfl rfl ?_
        unfold ir96
        repeat' (first
          | with_reducible (first | refine Rd.p ?_ | refine w_alt ?_ ?_ | refine zE ?_ | refine zE0 ?_)
          | with_reducible (first | refine zI fun y hy => ?_ | refine zL ?_ | refine zS ?_ | refine zA fun _ => ?_ | refine zV ?_ | refine zC ?_ | refine zG ?_ | refine zU ?_ | refine zG0 ?_ | refine zU0 ?_ | refine zF ?_)
          | with_reducible (first | refine zX ?_ | refine zD fun _ => ?_ | refine zD0 ?_ | refine zN ?_ | refine zF0 ?_ | refine zX0 ?_ | refine z1 ?_ | refine z2 ?_ | refine z3 ?_ | refine z4 ?_ | refine z5 ?_ | refine z6 ?_ | refine z7 ?_ | refine z8 ?_ | refine y1 ?_ | refine y2 ?_ | refine y3 ?_ | refine y4 ?_ | refine y5 ?_ | refine y6 ?_ | refine y7 ?_ | refine y8 ?_ | refine Rt.p (fun _ => ?_) fun _ => ?_)
          | ((with_reducible apply w_ixM); (focus exact rfl); (focus exact rfl); case' hk => intro y hy) | ((with_reducible (first | apply w_val | apply q_ends)); (focus exact rfl)))
        all_goals first | (exfalso; omega) | exact ⟨((p, r), some (some _)), ⟨rfl, rfl, fun h => by cases h⟩, rfl, trivial⟩
  | k + 1, p, r, b, m, o, hk, hp, hr, hob => by
    have ok := okS_of he
    have h9 := ok.g9
    have h4 := ok.s4
    have hcb := combF_bd s.ss.length s.ss rfl ok.s6
    have hcb2 : combF s.ss ≤ 1296 := by
      have : (6 : Int) ^ s.ss.length ≤ 1296 := by
        rcases (by omega : s.ss.length = 0 ∨ s.ss.length = 1 ∨ s.ss.length = 2 ∨ s.ss.length = 3 ∨ s.ss.length = 4) with h | h | h | h | h
        all_goals (rw [h]; decide)
      omega
    have hub := usedF_bd p hp (by omega)
    have hl : ¬ p.length = s.gs.length := by omega
    by_cases h1 : 0 ≤ m ∧ m ≤ r
    · have hv : growF s (want2 s) (k + 1) p r (b, m) = (b, m) := by
        have e : want2 s (b, m) p r = ((b, m), false) := by rw [want2, if_pos h1]
        rw [growF, e]; rfl
      rw [hv]
      have h1a := h1.1
      have h1b := h1.2
      rcases o with _ | u
      · obtain rfl := hob rfl
        refine RawC.walk (H := hint96 Try.prog) ir96 Try.func96 rfl rfl rfl ?_
        unfold ir96
        repeat' (first
          | with_reducible (first | refine Rd.p ?_ | refine w_alt ?_ ?_ | refine zE ?_ | refine zE0 ?_)
          | with_reducible (first | refine zI fun y hy => ?_ | refine zL ?_ | refine zS ?_ | refine zA fun _ => ?_ | refine zV ?_ | refine zC ?_ | refine zG ?_ | refine zU ?_ | refine zG0 ?_ | refine zU0 ?_ | refine zF ?_)
          | with_reducible (first | refine zX ?_ | refine zD fun _ => ?_ | refine zD0 ?_ | refine zN ?_ | refine zF0 ?_ | refine zX0 ?_ | refine z1 ?_ | refine z2 ?_ | refine z3 ?_ | refine z4 ?_ | refine z5 ?_ | refine z6 ?_ | refine z7 ?_ | refine z8 ?_ | refine y1 ?_ | refine y2 ?_ | refine y3 ?_ | refine y4 ?_ | refine y5 ?_ | refine y6 ?_ | refine y7 ?_ | refine y8 ?_ | refine Rt.p (fun _ => ?_) fun _ => ?_)
          | ((with_reducible apply w_ixM); (focus exact rfl); (focus exact rfl); case' hk => intro y hy) | ((with_reducible (first | apply w_val | apply q_ends)); (focus exact rfl)))
        exact ⟨(([], m), none), ⟨rfl, rfl, fun _ => rfl⟩, rfl, trivial⟩
      · refine RawC.walk (H := hint96 Try.prog) ir96 Try.func96 rfl rfl rfl ?_
        unfold ir96
        repeat' (first
          | with_reducible (first | refine Rd.p ?_ | refine w_alt ?_ ?_ | refine zE ?_ | refine zE0 ?_)
          | with_reducible (first | refine zI fun y hy => ?_ | refine zL ?_ | refine zS ?_ | refine zA fun _ => ?_ | refine zV ?_ | refine zC ?_ | refine zG ?_ | refine zU ?_ | refine zG0 ?_ | refine zU0 ?_ | refine zF ?_)
          | with_reducible (first | refine zX ?_ | refine zD fun _ => ?_ | refine zD0 ?_ | refine zN ?_ | refine zF0 ?_ | refine zX0 ?_ | refine z1 ?_ | refine z2 ?_ | refine z3 ?_ | refine z4 ?_ | refine z5 ?_ | refine z6 ?_ | refine z7 ?_ | refine z8 ?_ | refine y1 ?_ | refine y2 ?_ | refine y3 ?_ | refine y4 ?_ | refine y5 ?_ | refine y6 ?_ | refine y7 ?_ | refine y8 ?_ | refine Rt.p (fun _ => ?_) fun _ => ?_)
          | ((with_reducible apply w_ixM); (focus exact rfl); (focus exact rfl); case' hk => intro y hy) | ((with_reducible (first | apply w_val | apply q_ends)); (focus exact rfl)))
        exact ⟨((b, m), some none), ⟨rfl, rfl, fun h => by cases h⟩, rfl, trivial⟩
    have hor : ¬ 0 ≤ m ∨ ¬ m ≤ r := by omega
    obtain ⟨f, hf⟩ : ∃ f : List Int × Int → Nat → List Int × Int, f = fun st (n : Nat) => growF s (want2 s) k (p ++ [(n : Int)]) (r + againN s.gs p (n : Int)) st := ⟨_, rfl⟩
    obtain ⟨T, hT⟩ : ∃ T : Nat, T = (min (combF s.ss) (usedF p + 1)).toNat := ⟨_, rfl⟩
    have hrl : growF s (want2 s) (k + 1) p r (b, m) = foldI f T 0 (b, m) := by
      have e : want2 s (b, m) p r = ((b, m), true) := by rw [want2, if_neg h1, if_neg hl]
      rw [growF, e, if_pos rfl, hf, hT]
    rw [hrl]
    obtain ⟨FV, hFV⟩ : ∃ FV, FV = foldI f T 0 (b, m) := ⟨_, rfl⟩
    rw [← hFV]
    have hnn := fun (l : List Int) (hl : l ∈ s.gs) => (gathsE_nn (gathsE_of9 he) l hl)
    have hg3 : ∀ l ∈ s.gs, l.length < 1000 := fun l hl => by have := ok.g12 l hl; omega
    have hrep := fun n : Int => repeated_s s p [] n (by omega) (by simp; omega) hg3 hnn
    have hpn : ∀ n : Nat, (p ++ [(n : Int)]).length = p.length + 1 := fun n => by simp
    rcases o with _ | u
    case' none => obtain rfl := hob rfl
    all_goals
      refine RawC.walk (H := hint96 Try.prog) ir96 Try.func96 rfl rfl rfl ?_
      unfold ir96
      repeat' (first
        | with_reducible (first | refine Rd.p ?_ | refine w_alt ?_ ?_ | refine zE ?_ | refine zE0 ?_)
        | with_reducible (first | refine zI fun y hy => ?_ | refine zL ?_ | refine zS ?_ | refine zA fun _ => ?_ | refine zV ?_ | refine zC ?_ | refine zG ?_ | refine zU ?_ | refine zG0 ?_ | refine zU0 ?_ | refine zF ?_)
        | with_reducible (first | refine zX ?_ | refine zD fun _ => ?_ | refine zD0 ?_ | refine zN ?_ | refine zF0 ?_ | refine zX0 ?_ | refine z1 ?_ | refine z2 ?_ | refine z3 ?_ | refine z4 ?_ | refine z5 ?_ | refine z6 ?_ | refine z7 ?_ | refine z8 ?_ | refine y1 ?_ | refine y2 ?_ | refine y3 ?_ | refine y4 ?_ | refine y5 ?_ | refine y6 ?_ | refine y7 ?_ | refine y8 ?_ | refine Rt.p (fun _ => ?_) fun _ => ?_)
        | ((with_reducible apply w_ixM); (focus exact rfl); (focus exact rfl); case' hk => intro y hy) | ((with_reducible (first | apply w_val | apply q_ends)); (focus exact rfl)))
      all_goals try (exfalso; omega)
      all_goals
        first
          | refine w_loopK [0, 1, 2, 3] [] (fun x : Nat × (List Int × Int) × Option (Option Nat) => x.1 ≤ T ∧ FV = foldI f (T - x.1) x.1 x.2.1 ∧ okB x.2.1.1 x.2.2) (fun x => T - x.1) (fun x => [(8, .int .i64 x.1)]) (fun x => [(1000, (g, .row (seX s x.2.1.1 x.2.2 x.2.1.2)))]) (0, ([], m), none) ⟨Nat.zero_le _, hFV, fun _ => rfl⟩ ⟨rfl, trivial⟩ (by exact ⟨rfl, trivial⟩) ?_
          | refine w_loopK [0, 1, 2, 3] [] (fun x : Nat × (List Int × Int) × Option (Option Nat) => x.1 ≤ T ∧ FV = foldI f (T - x.1) x.1 x.2.1 ∧ okB x.2.1.1 x.2.2) (fun x => T - x.1) (fun x => [(8, .int .i64 x.1)]) (fun x => [(1000, (g, .row (seX s x.2.1.1 x.2.2 x.2.1.2)))]) (0, (b, m), some none) ⟨Nat.zero_le _, hFV, fun h => by cases h⟩ ⟨rfl, trivial⟩ (by exact ⟨rfl, trivial⟩) ?_
        rintro ⟨n, ⟨b', m'⟩, o'⟩ ⟨hn, hfo, hob'⟩ e σ
        dsimp only at hn hfo hob' ⊢
        by_cases hnT : n = T
        · rw [hnT, Nat.sub_self, foldI] at hfo
          repeat' (first
            | with_reducible (first | refine Rd.p ?_ | refine w_alt ?_ ?_ | refine zE ?_ | refine zE0 ?_)
            | with_reducible (first | refine zI fun y hy => ?_ | refine zL ?_ | refine zS ?_ | refine zA fun _ => ?_ | refine zV ?_ | refine zC ?_ | refine zG ?_ | refine zU ?_ | refine zG0 ?_ | refine zU0 ?_ | refine zF ?_)
            | with_reducible (first | refine zX ?_ | refine zD fun _ => ?_ | refine zD0 ?_ | refine zN ?_ | refine zF0 ?_ | refine zX0 ?_ | refine z1 ?_ | refine z2 ?_ | refine z3 ?_ | refine z4 ?_ | refine z5 ?_ | refine z6 ?_ | refine z7 ?_ | refine z8 ?_ | refine y1 ?_ | refine y2 ?_ | refine y3 ?_ | refine y4 ?_ | refine y5 ?_ | refine y6 ?_ | refine y7 ?_ | refine y8 ?_ | refine Rt.p (fun _ => ?_) fun _ => ?_)
            | ((with_reducible apply w_ixM); (focus exact rfl); (focus exact rfl); case' hk => intro y hy) | ((with_reducible (first | apply w_val | apply q_ends)); (focus exact rfl)))
          exact ⟨((b', m'), o'), ⟨rfl, hfo.symm, hob'⟩, rfl, trivial⟩
        have hnT2 : n < T := by omega
        rw [show T - n = (T - (n + 1)) + 1 by omega, foldI] at hfo
        have hfn : f (b', m') n = growF s (want2 s) k (p ++ [(n : Int)]) (r + againN s.gs p (n : Int)) (b', m') := by rw [hf]
        rw [hfn, ← repL_len] at hfo
        have hre := hrep n
        have hbd := repL_bd ok (p := p) (by omega) n
        have hpx : ∀ x ∈ p ++ [(n : Int)], 0 ≤ x ∧ x < combF s.ss := by
          intro x hx
          rcases List.mem_append.1 hx with h | h
          · exact hp x h
          · have : x = (n : Int) := by simpa using h
            omega
        have hpn1 := hpn n
        have hIH := fun o'' ho'' => rfew_s s g he k (p ++ [(n : Int)]) (r + ((repL s p n).length : Int)) b' m' o'' (by omega) hpx (by omega) ho''
        simp only [usedF_snoc] at hIH
        rcases o' with _ | _ | g'
        · obtain rfl := hob' rfl
          have hI := hIH none (fun _ => rfl)
          repeat' (first
            | with_reducible (first | refine Rd.p ?_ | refine w_alt ?_ ?_ | refine zE ?_ | refine zE0 ?_)
            | with_reducible (first | refine zI fun y hy => ?_ | refine zL ?_ | refine zS ?_ | refine zA fun _ => ?_ | refine zV ?_ | refine zC ?_ | refine zG ?_ | refine zU ?_ | refine zG0 ?_ | refine zU0 ?_ | refine zF ?_)
            | ((with_reducible refine acall_id ?_); refine ACall.val hre rfl rfl ?_)
            | ((with_reducible refine acall_id ?_); refine ACall.liftS hI [(1000, 1000)] none rfl rfl rfl ⟨⟨_, rfl⟩, trivial⟩ (fun _ => rfl) ?_; rintro ⟨b2, o2⟩ _ ⟨rfl, hb2, hob2⟩)
            | with_reducible (first | refine zX ?_ | refine zD fun _ => ?_ | refine zD0 ?_ | refine zN ?_ | refine zF0 ?_ | refine zX0 ?_ | refine z1 ?_ | refine z2 ?_ | refine z3 ?_ | refine z4 ?_ | refine z5 ?_ | refine z6 ?_ | refine z7 ?_ | refine z8 ?_ | refine y1 ?_ | refine y2 ?_ | refine y3 ?_ | refine y4 ?_ | refine y5 ?_ | refine y6 ?_ | refine y7 ?_ | refine y8 ?_ | refine Rt.p (fun _ => ?_) fun _ => ?_)
            | ((with_reducible apply w_ixM); (focus exact rfl); (focus exact rfl); case' hk => intro y hy) | ((with_reducible (first | apply w_val | apply q_ends)); (focus exact rfl)))
          rw [← hb2] at hfo
          rcases o2 with _ | _ | g2
          · exact q_loop (n + 1, b2, none) ⟨hnT2, hfo, hob2⟩ (by show T - (n + 1) < T - n; omega) (slots_cons (by show AV.int .i64 _ = AV.int .i64 _; refine int_eq ?_; simp) slots_nil) (by exact ⟨rfl, trivial⟩) (by repeat' (first | exact kept_nil | apply kept_cons | rfl)) (by repeat' (first | exact kept_nil | apply kept_cons | rfl))
          · exact q_loop (n + 1, b2, some none) ⟨hnT2, hfo, fun h => by cases h⟩ (by show T - (n + 1) < T - n; omega) (slots_cons (by show AV.int .i64 _ = AV.int .i64 _; refine int_eq ?_; simp) slots_nil) (by exact ⟨rfl, trivial⟩) (by repeat' (first | exact kept_nil | apply kept_cons | rfl)) (by repeat' (first | exact kept_nil | apply kept_cons | rfl))
          · exact q_loop (n + 1, b2, some none) ⟨hnT2, hfo, fun h => by cases h⟩ (by show T - (n + 1) < T - n; omega) (slots_cons (by show AV.int .i64 _ = AV.int .i64 _; refine int_eq ?_; simp) slots_nil) (by exact ⟨rfl, trivial⟩) (by repeat' (first | exact kept_nil | apply kept_cons | rfl)) (by repeat' (first | exact kept_nil | apply kept_cons | rfl))
        all_goals
          have hI := hIH (some ()) (fun h => by cases h)
          repeat' (first
            | with_reducible (first | refine Rd.p ?_ | refine w_alt ?_ ?_ | refine zE ?_ | refine zE0 ?_)
            | with_reducible (first | refine zI fun y hy => ?_ | refine zL ?_ | refine zS ?_ | refine zA fun _ => ?_ | refine zV ?_ | refine zC ?_ | refine zG ?_ | refine zU ?_ | refine zG0 ?_ | refine zU0 ?_ | refine zF ?_)
            | ((with_reducible refine acall_id ?_); refine ACall.val hre rfl rfl ?_)
            | ((with_reducible refine acall_id ?_); refine ACall.liftS hI [(1000, 1000)] none rfl rfl rfl ⟨⟨_, rfl⟩, trivial⟩ (fun _ => rfl) ?_; rintro ⟨b2, o2⟩ _ ⟨rfl, hb2, hob2⟩)
            | with_reducible (first | refine zX ?_ | refine zD fun _ => ?_ | refine zD0 ?_ | refine zN ?_ | refine zF0 ?_ | refine zX0 ?_ | refine z1 ?_ | refine z2 ?_ | refine z3 ?_ | refine z4 ?_ | refine z5 ?_ | refine z6 ?_ | refine z7 ?_ | refine z8 ?_ | refine y1 ?_ | refine y2 ?_ | refine y3 ?_ | refine y4 ?_ | refine y5 ?_ | refine y6 ?_ | refine y7 ?_ | refine y8 ?_ | refine Rt.p (fun _ => ?_) fun _ => ?_)
            | ((with_reducible apply w_ixM); (focus exact rfl); (focus exact rfl); case' hk => intro y hy) | ((with_reducible (first | apply w_val | apply q_ends)); (focus exact rfl)))
          rw [← hb2] at hfo
          rcases o2 with _ | _ | g2
          · exact q_loop (n + 1, b2, none) ⟨hnT2, hfo, hob2⟩ (by show T - (n + 1) < T - n; omega) (slots_cons (by show AV.int .i64 _ = AV.int .i64 _; refine int_eq ?_; simp) slots_nil) (by exact ⟨rfl, trivial⟩) (by repeat' (first | exact kept_nil | apply kept_cons | rfl)) (by repeat' (first | exact kept_nil | apply kept_cons | rfl))
          · exact q_loop (n + 1, b2, some none) ⟨hnT2, hfo, fun h => by cases h⟩ (by show T - (n + 1) < T - n; omega) (slots_cons (by show AV.int .i64 _ = AV.int .i64 _; refine int_eq ?_; simp) slots_nil) (by exact ⟨rfl, trivial⟩) (by repeat' (first | exact kept_nil | apply kept_cons | rfl)) (by repeat' (first | exact kept_nil | apply kept_cons | rfl))
          · exact q_loop (n + 1, b2, some none) ⟨hnT2, hfo, fun h => by cases h⟩ (by show T - (n + 1) < T - n; omega) (slots_cons (by show AV.int .i64 _ = AV.int .i64 _; refine int_eq ?_; simp) slots_nil) (by exact ⟨rfl, trivial⟩) (by repeat' (first | exact kept_nil | apply kept_cons | rfl)) (by repeat' (first | exact kept_nil | apply kept_cons | rfl))
end Go.Abs
