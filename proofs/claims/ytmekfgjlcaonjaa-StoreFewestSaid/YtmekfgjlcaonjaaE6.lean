/- A part of the proofs of the laws of this seat: contracts of the functions that they reach, each proved of the program's form in Lean. No condition beyond those that each contract names. -/
import Derived.Test.YtmekfgjlcaonjaaE5
import Derived.Test.YtmekfgjlcaonjaaC12
import Derived.Test.YtmekfgjlcaonjaaC11
import Derived.Test.YtmekfgjlcaonjaaC10
import Derived.Test.YtmekfgjlcaonjaaC9
import Derived.Test.YtmekfgjlcaonjaaC8
import Derived.Test.YtmekfgjlcaonjaaC7
import Derived.Test.YtmekfgjlcaonjaaC5
import Derived.Test.YtmekfgjlcaonjaaC4
import Derived.Test.YtmekfgjlcaonjaaC2
import Derived.Test.YtmekfgjlcaonjaaC1
import Derived.Test.YtmekfgjlcaonjaaB
set_option linter.unusedVariables false
set_option linter.unusedSimpArgs false
set_option maxRecDepth 20000
set_option maxHeartbeats 4000000
namespace Go.Abs
open Go.Proofs
/-- aloeswood/store.Fewest -/
def ir46 : IFn :=
  ⟨16, [(2, some (1, false)), (3, some (1, false)), (4, none)], (.seq (.ops [⟨(some 1), none, (.box 2 (.t 0))⟩,
    ⟨(some 2), none, (.new [.nsl])⟩,
    ⟨(some 3), none, (.new [(.int .i64 0)])⟩,
    ⟨(some 4), none, (.mov (.k (.int .i64 0)))⟩])
  (.seq (.seq (.ops [⟨(some 6), none, (.ld 2 true (.t 1))⟩,
    ⟨(some 7), none, (.callF 62 [(.t 6)])⟩,
    ⟨(some 5), none, (.mov (.t 7))⟩])
  (.seq (.ops [⟨(some 8), none, (.mov (.t 5))⟩,
    ⟨(some 9), none, (.bin .neq (.t 8) (.k (.int .i64 0)))⟩])
  (.cnd (.t 9)
    (.seq (.ops [⟨(some 10), none, (.mov (.t 5))⟩,
      ⟨none, none, (.st 1 (.t 2) (.k .nsl))⟩,
      ⟨none, none, (.st 1 (.t 3) (.k (.int .i64 0)))⟩,
      ⟨(some 4), none, (.mov (.t 10))⟩])
    .ret)
    .skip)))
  (.seq (.ops [⟨none, none, (.st 1 (.t 3) (.k (.int .i64 (-1))))⟩])
  (.seq (.ops [⟨(some 11), none, (.ld 2 true (.t 1))⟩,
    ⟨(some 12), none, (.mkf (.func 95) [] [(.t 3), (.t 1), (.t 2)])⟩,
    ⟨(some 13), none, (.callF 92 [(.t 11), (.t 12)])⟩])
  (.seq (.ops [⟨(some 14), none, (.ld 1 false (.t 2))⟩,
    ⟨(some 15), none, (.ld 1 false (.t 3))⟩,
    ⟨none, none, (.st 1 (.t 2) (.t 14))⟩,
    ⟨none, none, (.chk 1 false (.t 3) 15)⟩,
    ⟨none, none, (.st 1 (.t 3) (.t 15))⟩,
    ⟨(some 4), none, (.mov (.k (.int .i64 0)))⟩])
  .ret)))))⟩
def hint46 (P : Program) : Hint := {}
theorem grow2_top {s : Sea} {σ : Sig} {d : Nat} {Q : AV → Sig → Prop} (g0 g1 g2 g3 g4 g5 g6 g7 g8 : Nat) (a a' : AV) (r : Int) (b : List Int × Int) (kv : List ((Int × Int) × Int)) (R : (List Int × Int) × List ((Int × Int) × Int) → Prop)
    (H : RawC Try.prog 125 [a, .int .i64 r, .ref 1000 g0 0, .ref 1001 g1 0, .ref 1002 g2 0, .ref 1003 g3 0, .ref 1004 g4 0] (sg (planS2 s g0 g1 g2 g3 g4 g5 g6 g7 g8 b kv)) (SR (fun (x : (List Int × Int) × List ((Int × Int) × Int)) v => v = .tup [] ∧ R x) (fun x => planS2 s g0 g1 g2 g3 g4 g5 g6 g7 g8 x.1 x.2))) (ha : a = ren (flipL [(1000, 3), (1001, 2), (1002, 5), (1003, 4), (1004, 6), (1005, 1000), (1006, 1001), (1007, 7), (1008, 1002)]) a')
    (h0 : σ 3 = (g0, .row [.clo (.func 95) [] [.ref 1000 g5 0, .ref 1001 g6 0, .ref 1002 g8 0]])) (h1 : σ 2 = (g1, .row (seC s))) (h2 : σ 5 = (g2, .row [.int .i64 (combF s.ss)])) (h3 : σ 4 = (g3, .row [.map 7 g7])) (h4 : σ 6 = (g4, .row [.clo (.func 125) [] [.ref 3 g0 0, .ref 2 g1 0, .ref 5 g2 0, .ref 4 g3 0, .ref 6 g4 0]])) (h5 : σ 1000 = (g5, .row [.int .i64 b.2])) (h6 : σ 1001 = (g6, .row (seC s))) (h7 : σ 7 = (g7, .row [.mpv (kvK kv) (kvV kv)])) (h8 : σ 1002 = (g8, .row [optI b.1]))
    (hQ : ∀ x, R x → Q (.tup []) (upd (upd (upd (upd (upd (upd (upd (upd (upd σ 1002 (g8, .row [optI x.1.1])) 7 (g7, .row [.mpv (kvK x.2) (kvV x.2)])) 1001 (g6, .row (seC s))) 1000 (g5, .row [.int .i64 x.1.2])) 6 (g4, .row [.clo (.func 125) [] [.ref 3 g0 0, .ref 2 g1 0, .ref 5 g2 0, .ref 4 g3 0, .ref 6 g4 0]])) 4 (g3, .row [.map 7 g7])) 5 (g2, .row [.int .i64 (combF s.ss)])) 2 (g1, .row (seC s))) 3 (g0, .row [.clo (.func 95) [] [.ref 1000 g5 0, .ref 1001 g6 0, .ref 1002 g8 0]]))) :
    ACall Try.prog 125 [a', .int .i64 r, .ref 3 g0 0, .ref 2 g1 0, .ref 5 g2 0, .ref 4 g3 0, .ref 6 g4 0] σ d Q := by
  refine ACall.liftS H [(1000, 3), (1001, 2), (1002, 5), (1003, 4), (1004, 6), (1005, 1000), (1006, 1001), (1007, 7), (1008, 1002)] none rfl ?_ ?_ ⟨⟨_, by rw [h0]⟩, ⟨_, by rw [h1]⟩, ⟨_, by rw [h2]⟩, ⟨_, by rw [h3]⟩, ⟨_, by rw [h4]⟩, ⟨_, by rw [h5]⟩, ⟨_, by rw [h6]⟩, ⟨_, by rw [h7]⟩, ⟨_, by rw [h8]⟩, trivial⟩ (fun _ => rfl) ?_
  · rw [ha]; rfl
  · show _ = [(1000, ((σ 3).1, renR _ (σ 3).2)), (1001, ((σ 2).1, renR _ (σ 2).2)), (1002, ((σ 5).1, renR _ (σ 5).2)), (1003, ((σ 4).1, renR _ (σ 4).2)), (1004, ((σ 6).1, renR _ (σ 6).2)), (1005, ((σ 1000).1, renR _ (σ 1000).2)), (1006, ((σ 1001).1, renR _ (σ 1001).2)), (1007, ((σ 7).1, renR _ (σ 7).2)), (1008, ((σ 1002).1, renR _ (σ 1002).2))]
    rw [h0, h1, h2, h3, h4, h5, h6, h7, h8]; simp only [renR, renL, renL_opt]; rfl
  · rintro x av ⟨rfl, hR⟩
    have := hQ x hR
    show Q _ (upd (upd (upd (upd (upd (upd (upd (upd (upd σ 1002 (g8, renR _ (.row [optI x.1.1]))) 7 (g7, renR _ (.row [.mpv (kvK x.2) (kvV x.2)]))) 1001 (g6, renR _ (.row (seC s)))) 1000 (g5, renR _ (.row [.int .i64 x.1.2]))) 6 (g4, renR _ (.row [.clo (.func 125) [] [.ref 1000 g0 0, .ref 1001 g1 0, .ref 1002 g2 0, .ref 1003 g3 0, .ref 1004 g4 0]]))) 4 (g3, renR _ (.row [.map 1007 g7]))) 5 (g2, renR _ (.row [.int .i64 (combF s.ss)]))) 2 (g1, renR _ (.row (seC s)))) 3 (g0, renR _ (.row [.clo (.func 95) [] [.ref 1005 g5 0, .ref 1006 g6 0, .ref 1008 g8 0]])))
    simp only [renR, renL, renL_opt]; exact this
theorem plans2_s (s : Sea) (g5 g6 g8 : Nat) (b : List Int × Int) (ok : OkS s) :
    RawC Try.prog 92 [seA s, .clo (.func 95) [] [.ref 1000 g5 0, .ref 1001 g6 0, .ref 1002 g8 0]] (sg [(1000, (g5, .row [.int .i64 b.2])), (1001, (g6, .row (seC s))), (1002, (g8, .row [optI b.1]))])
      (SR (fun (x : List Int × Int) v => v = .tup [] ∧ x = growF s (want2 s) s.gs.length [] 0 b) (fun x => [(1000, (g5, .row [.int .i64 x.2])), (1001, (g6, .row (seC s))), (1002, (g8, .row [optI x.1]))])) := by
  have H := fun g0 g1 g2 g3 g4 g5 g6 g7 g8 => grow2_s s g0 g1 g2 g3 g4 g5 g6 g7 g8 ok s.gs.length [] .nsl 0 b [] (by simp) (.inl ⟨rfl, rfl⟩) (fun x h => by simp at h) (by omega) (by simp) (fun q => (metN_nil _ _).symm)
  refine RawC.walk (H := hint92 Try.prog) ir92 Try.func92 rfl rfl rfl ?_
  unfold ir92
  repeat' (first
    | with_reducible (first | refine Rd.p ?_ | refine w_alt ?_ ?_ | refine zE ?_ | refine zE0 ?_)
    | with_reducible (first | refine zI fun y hy => ?_ | refine zL ?_ | refine zS ?_ | refine zA fun _ => ?_ | refine zV ?_ | refine zC ?_ | refine zG ?_ | refine zU ?_ | refine zG0 ?_ | refine zU0 ?_ | refine zF ?_)
    | ((with_reducible refine acall_id ?_); refine ACall.val (comb_s s ok.s4 ok.s6) rfl rfl ?_)
    | ((with_reducible refine acall_id ?_); (refine grow2_top _ _ _ _ _ _ _ _ _ _ .nsl 0 b [] _ (H _ _ _ _ _ _ _ _ _) rfl rfl rfl rfl rfl rfl rfl rfl rfl rfl ?_; rintro ⟨x, kv⟩ ⟨hx, _⟩; dsimp only at hx ⊢))
    | with_reducible (first | refine zX ?_ | refine zD fun _ => ?_ | refine zD0 ?_ | refine zN ?_ | refine zF0 ?_ | refine zX0 ?_ | refine z1 ?_ | refine z2 ?_ | refine z3 ?_ | refine z4 ?_ | refine z5 ?_ | refine z6 ?_ | refine z7 ?_ | refine z8 ?_ | refine y1 ?_ | refine y2 ?_ | refine y3 ?_ | refine y4 ?_ | refine y5 ?_ | refine y6 ?_ | refine y7 ?_ | refine y8 ?_ | refine Rt.p (fun _ => ?_) fun _ => ?_)
    | ((with_reducible apply w_ixM); (focus exact rfl); (focus exact rfl); case' hk => intro y hy) | ((with_reducible (first | apply w_val | apply q_ends)); (focus exact rfl)))
  exact ⟨x, ⟨rfl, hx⟩, (by repeat' (first | exact slots_nil | apply slots_cons | rfl | (rw [map_snoc]; rfl) | (rw [len_snoc]; rfl) | (rw [hS]; rfl) | (rw [hS, map_snoc]; rfl) | (refine int_eq ?_; (try dsimp only); omega) | (refine congrArg AV.bool ?_; simp_all; done)))⟩
theorem plans2_call {s : Sea} {σ : Sig} {d : Nat} {Q : AV → Sig → Prop} (g5 g6 g8 : Nat) (b : List Int × Int) (ok : OkS s) (h5 : σ 3 = (g5, .row [.int .i64 b.2])) (h6 : σ 1 = (g6, .row (seC s))) (h8 : σ 2 = (g8, .row [optI b.1]))
    (hQ : Q (.tup []) (upd (upd (upd σ 2 (g8, .row [optI (growF s (want2 s) s.gs.length [] 0 b).1])) 1 (g6, .row (seC s))) 3 (g5, .row [.int .i64 (growF s (want2 s) s.gs.length [] 0 b).2]))) :
    ACall Try.prog 92 [seA s, .clo (.func 95) [] [.ref 3 g5 0, .ref 1 g6 0, .ref 2 g8 0]] σ d Q := by
  refine ACall.liftS (plans2_s s g5 g6 g8 b ok) [(1000, 3), (1001, 1), (1002, 2)] none rfl ?_ ?_ ⟨⟨_, by rw [h5]⟩, ⟨_, by rw [h6]⟩, ⟨_, by rw [h8]⟩, trivial⟩ (fun _ => rfl) ?_
  · rfl
  · show _ = [(1000, ((σ 3).1, renR _ (σ 3).2)), (1001, ((σ 1).1, renR _ (σ 1).2)), (1002, ((σ 2).1, renR _ (σ 2).2))]
    rw [h5, h6, h8]; simp only [renR, renL, renL_opt]; rfl
  · rintro x av ⟨rfl, rfl⟩
    show Q _ (upd (upd (upd σ 2 (g8, renR _ (.row [optI _]))) 1 (g6, renR _ (.row (seC s)))) 3 (g5, renR _ (.row [.int .i64 _])))
    simp only [renR, renL, renL_opt]; exact hQ
/-- Fewest: the plan, and how many repeats it has. -/
def fewF (s : Sea) : List Int × Int := if seaE s = 0 then growF s (want2 s) s.gs.length [] 0 ([], -1) else ([], 0)
theorem Fewest_s (s : Sea) (h1 : s.ss.length < 1000) (h2 : s.gs.length < 1000) (h3 : ∀ l ∈ s.gs, l.length < 1000) :
    Fn0 Try.prog 46 [seA s] (fun v => v = .tup [optI (fewF s).1, .int .i64 (fewF s).2, .int .i64 (seaE s)]) := by
  by_cases he : seaE s = 0
  · have ok := okS_of he
    have hp : fewF s = growF s (want2 s) s.gs.length [] 0 ([], -1) := by rw [fewF, if_pos he]
    rw [hp, he]
    have hck := checkS_s s h1 h2 h3
    rw [he] at hck
    obtain ⟨x, hx⟩ : ∃ x, x = growF s (want2 s) s.gs.length [] 0 ([], -1) := ⟨_, rfl⟩
    rw [← hx]
    obtain ⟨x, m⟩ := x
    cases x
    all_goals
      refine RawC.walk (H := hint46 Try.prog) ir46 Try.func46 rfl rfl rfl ?_
      unfold ir46
      repeat' (first
        | with_reducible (first | refine Rd.p ?_ | refine w_alt ?_ ?_ | refine zE ?_ | refine zE0 ?_)
        | with_reducible (first | refine zI fun y hy => ?_ | refine zL ?_ | refine zS ?_ | refine zA fun _ => ?_ | refine zV ?_ | refine zC ?_ | refine zG ?_ | refine zU ?_ | refine zG0 ?_ | refine zU0 ?_ | refine zF ?_)
        | ((with_reducible refine acall_id ?_); refine ACall.val hck rfl rfl ?_)
        | ((with_reducible refine acall_id ?_); (refine plans2_call _ _ _ ([], -1) ok rfl rfl rfl ?_; rw [← hx]))
        | with_reducible (first | refine zX ?_ | refine zD fun _ => ?_ | refine zD0 ?_ | refine zN ?_ | refine zF0 ?_ | refine zX0 ?_ | refine z1 ?_ | refine z2 ?_ | refine z3 ?_ | refine z4 ?_ | refine z5 ?_ | refine z6 ?_ | refine z7 ?_ | refine z8 ?_ | refine y1 ?_ | refine y2 ?_ | refine y3 ?_ | refine y4 ?_ | refine y5 ?_ | refine y6 ?_ | refine y7 ?_ | refine y8 ?_ | refine Rt.p (fun _ => ?_) fun _ => ?_)
        | ((with_reducible apply w_ixM); (focus exact rfl); (focus exact rfl); case' hk => intro y hy) | ((with_reducible (first | apply w_val | apply q_ends)); (focus exact rfl)))
      rfl
  · have hp : fewF s = ([], 0) := by rw [fewF, if_neg he]
    rw [hp]
    have hck := checkS_s s h1 h2 h3
    refine RawC.walk (H := hint46 Try.prog) ir46 Try.func46 rfl rfl rfl ?_
    unfold ir46
    repeat' (first
      | with_reducible (first | refine Rd.p ?_ | refine w_alt ?_ ?_ | refine zE ?_ | refine zE0 ?_)
      | with_reducible (first | refine zI fun y hy => ?_ | refine zL ?_ | refine zS ?_ | refine zA fun _ => ?_ | refine zV ?_ | refine zC ?_ | refine zG ?_ | refine zU ?_ | refine zG0 ?_ | refine zU0 ?_ | refine zF ?_)
      | ((with_reducible refine acall_id ?_); refine ACall.val hck rfl rfl ?_)
      | with_reducible (first | refine zX ?_ | refine zD fun _ => ?_ | refine zD0 ?_ | refine zN ?_ | refine zF0 ?_ | refine zX0 ?_ | refine z1 ?_ | refine z2 ?_ | refine z3 ?_ | refine z4 ?_ | refine z5 ?_ | refine z6 ?_ | refine z7 ?_ | refine z8 ?_ | refine y1 ?_ | refine y2 ?_ | refine y3 ?_ | refine y4 ?_ | refine y5 ?_ | refine y6 ?_ | refine y7 ?_ | refine y8 ?_ | refine Rt.p (fun _ => ?_) fun _ => ?_)
      | ((with_reducible apply w_ixM); (focus exact rfl); (focus exact rfl); case' hk => intro y hy) | ((with_reducible (first | apply w_val | apply q_ends)); (focus exact rfl)))
    · rfl
end Go.Abs
