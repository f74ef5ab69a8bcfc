/- A part of the proofs of the laws of this seat: contracts of the functions that they reach, each proved of the program's form in Lean. No condition beyond those that each contract names. -/
import Derived.Test.YtmekfgjlcaonjaaC11
import Derived.Test.YtmekfgjlcaonjaaC10
import Derived.Test.YtmekfgjlcaonjaaC9
import Derived.Test.YtmekfgjlcaonjaaC8
import Derived.Test.YtmekfgjlcaonjaaC7
import Derived.Test.YtmekfgjlcaonjaaC5
import Derived.Test.YtmekfgjlcaonjaaC4
import Derived.Test.YtmekfgjlcaonjaaC2
import Derived.Test.YtmekfgjlcaonjaaC1
import Derived.Test.YtmekfgjlcaonjaaB
set_option linter.unusedVariables false
set_option linter.unusedSimpArgs false
set_option maxRecDepth 20000
set_option maxHeartbeats 4000000
namespace Go.Abs
open Go.Proofs
/-- aloeswood/store.plans -/
def ir92 : IFn :=
  ⟨13, [], (.seq (.ops [⟨(some 2), none, (.box 2 (.t 0))⟩,
    ⟨(some 3), none, (.box 1 (.t 1))⟩])
  (.seq (.ops [⟨(some 7), none, .mkm⟩,
    ⟨(some 8), none, (.ld 2 true (.t 2))⟩,
    ⟨(some 9), none, (.callF 98 [(.t 8)])⟩,
    ⟨(some 4), none, (.new [.nmp])⟩,
    ⟨(some 5), none, (.new [(.int .i64 0)])⟩,
    ⟨none, none, (.st 1 (.t 4) (.t 7))⟩,
    ⟨none, none, (.st 1 (.t 5) (.t 9))⟩])
  (.seq (.ops [⟨(some 6), none, (.new [.nfn])⟩])
  (.seq (.ops [⟨(some 10), none, (.mkf (.func 125) [] [(.t 3), (.t 2), (.t 5), (.t 4), (.t 6)])⟩,
    ⟨none, none, (.st 1 (.t 6) (.t 10))⟩])
  (.ops [⟨(some 11), none, (.ld 1 false (.t 6))⟩,
    ⟨(some 12), none, (.callV (.t 11) [(.k .nsl), (.k (.int .i64 0))])⟩])))))⟩
def hint92 (P : Program) : Hint := {}
/-- aloeswood/store.Plan -/
def ir44 : IFn :=
  ⟨15, [(2, none), (3, none)], (.seq (.ops [⟨(some 1), none, (.box 2 (.t 0))⟩,
    ⟨(some 2), none, (.mov (.k .nsl))⟩,
    ⟨(some 3), none, (.mov (.k (.int .i64 0)))⟩])
  (.seq (.seq (.ops [⟨(some 6), none, (.ld 2 true (.t 1))⟩,
    ⟨(some 7), none, (.callF 62 [(.t 6)])⟩,
    ⟨(some 4), none, (.mov (.t 7))⟩])
  (.seq (.ops [⟨(some 8), none, (.mov (.t 4))⟩,
    ⟨(some 9), none, (.bin .neq (.t 8) (.k (.int .i64 0)))⟩])
  (.cnd (.t 9)
    (.seq (.ops [⟨(some 10), none, (.mov (.t 4))⟩,
      ⟨(some 2), none, (.mov (.k .nsl))⟩,
      ⟨(some 3), none, (.mov (.t 10))⟩])
    .ret)
    .skip)))
  (.seq (.ops [⟨(some 5), none, (.new [.nsl])⟩])
  (.seq (.ops [⟨(some 11), none, (.ld 2 true (.t 1))⟩,
    ⟨(some 12), none, (.mkf (.func 93) [] [(.t 5), (.t 1)])⟩,
    ⟨(some 13), none, (.callF 92 [(.t 11), (.t 12)])⟩])
  (.seq (.ops [⟨(some 14), none, (.ld 1 false (.t 5))⟩,
    ⟨(some 2), none, (.mov (.t 14))⟩,
    ⟨(some 3), none, (.mov (.k (.int .i64 0)))⟩])
  .ret)))))⟩
def hint44 (P : Program) : Hint := {}
theorem grow1_top {s : Sea} {σ : Sig} {d : Nat} {Q : AV → Sig → Prop} (g0 g1 g2 g3 g4 g5 g6 g7 : Nat) (a a' : AV) (r : Int) (b : List Int) (kv : List ((Int × Int) × Int)) (R : List Int × List ((Int × Int) × Int) → Prop)
    (H : RawC Try.prog 125 [a, .int .i64 r, .ref 1000 g0 0, .ref 1001 g1 0, .ref 1002 g2 0, .ref 1003 g3 0, .ref 1004 g4 0] (sg (planS s g0 g1 g2 g3 g4 g5 g6 g7 b kv)) (SR (fun (x : List Int × List ((Int × Int) × Int)) v => v = .tup [] ∧ R x) (fun x => planS s g0 g1 g2 g3 g4 g5 g6 g7 x.1 x.2))) (ha : a = ren (flipL [(1000, 3), (1001, 2), (1002, 5), (1003, 4), (1004, 6), (1005, 1000), (1006, 1001), (1007, 7)]) a')
    (h0 : σ 3 = (g0, .row [.clo (.func 93) [] [.ref 1000 g5 0, .ref 1001 g6 0]])) (h1 : σ 2 = (g1, .row (seC s))) (h2 : σ 5 = (g2, .row [.int .i64 (combF s.ss)])) (h3 : σ 4 = (g3, .row [.map 7 g7])) (h4 : σ 6 = (g4, .row [.clo (.func 125) [] [.ref 3 g0 0, .ref 2 g1 0, .ref 5 g2 0, .ref 4 g3 0, .ref 6 g4 0]])) (h5 : σ 1000 = (g5, .row [optI b])) (h6 : σ 1001 = (g6, .row (seC s))) (h7 : σ 7 = (g7, .row [.mpv (kvK kv) (kvV kv)]))
    (hQ : ∀ x, R x → Q (.tup []) (upd (upd (upd (upd (upd (upd (upd (upd σ 7 (g7, .row [.mpv (kvK x.2) (kvV x.2)])) 1001 (g6, .row (seC s))) 1000 (g5, .row [optI x.1])) 6 (g4, .row [.clo (.func 125) [] [.ref 3 g0 0, .ref 2 g1 0, .ref 5 g2 0, .ref 4 g3 0, .ref 6 g4 0]])) 4 (g3, .row [.map 7 g7])) 5 (g2, .row [.int .i64 (combF s.ss)])) 2 (g1, .row (seC s))) 3 (g0, .row [.clo (.func 93) [] [.ref 1000 g5 0, .ref 1001 g6 0]]))) :
    ACall Try.prog 125 [a', .int .i64 r, .ref 3 g0 0, .ref 2 g1 0, .ref 5 g2 0, .ref 4 g3 0, .ref 6 g4 0] σ d Q := by
  refine ACall.liftS H [(1000, 3), (1001, 2), (1002, 5), (1003, 4), (1004, 6), (1005, 1000), (1006, 1001), (1007, 7)] none rfl ?_ ?_ ⟨⟨_, by rw [h0]⟩, ⟨_, by rw [h1]⟩, ⟨_, by rw [h2]⟩, ⟨_, by rw [h3]⟩, ⟨_, by rw [h4]⟩, ⟨_, by rw [h5]⟩, ⟨_, by rw [h6]⟩, ⟨_, by rw [h7]⟩, trivial⟩ (fun _ => rfl) ?_
  · rw [ha]; rfl
  · show _ = [(1000, ((σ 3).1, renR _ (σ 3).2)), (1001, ((σ 2).1, renR _ (σ 2).2)), (1002, ((σ 5).1, renR _ (σ 5).2)), (1003, ((σ 4).1, renR _ (σ 4).2)), (1004, ((σ 6).1, renR _ (σ 6).2)), (1005, ((σ 1000).1, renR _ (σ 1000).2)), (1006, ((σ 1001).1, renR _ (σ 1001).2)), (1007, ((σ 7).1, renR _ (σ 7).2))]
    rw [h0, h1, h2, h3, h4, h5, h6, h7]; simp only [renR, renL, renL_opt]; rfl
  · rintro x av ⟨rfl, hR⟩
    have := hQ x hR
    show Q _ (upd (upd (upd (upd (upd (upd (upd (upd σ 7 (g7, renR _ (.row [.mpv (kvK x.2) (kvV x.2)]))) 1001 (g6, renR _ (.row (seC s)))) 1000 (g5, renR _ (.row [optI x.1]))) 6 (g4, renR _ (.row [.clo (.func 125) [] [.ref 1000 g0 0, .ref 1001 g1 0, .ref 1002 g2 0, .ref 1003 g3 0, .ref 1004 g4 0]]))) 4 (g3, renR _ (.row [.map 1007 g7]))) 5 (g2, renR _ (.row [.int .i64 (combF s.ss)]))) 2 (g1, renR _ (.row (seC s)))) 3 (g0, renR _ (.row [.clo (.func 93) [] [.ref 1005 g5 0, .ref 1006 g6 0]])))
    simp only [renR, renL, renL_opt]; exact this
theorem metN_nil (gs : List (List Int)) (q : Int × Int) : metN gs [] q = 0 := by cases gs <;> rfl
theorem plans1_s (s : Sea) (g5 g6 : Nat) (b : List Int) (ok : OkS s) (hb : b.length ≤ 9) :
    RawC Try.prog 92 [seA s, .clo (.func 93) [] [.ref 1000 g5 0, .ref 1001 g6 0]] (sg [(1000, (g5, .row [optI b])), (1001, (g6, .row (seC s)))])
      (SR (fun (x : List Int) v => v = .tup [] ∧ x = growF s (want1 s) s.gs.length [] 0 b) (fun x => [(1000, (g5, .row [optI x])), (1001, (g6, .row (seC s)))])) := by
  have H := fun g0 g1 g2 g3 g4 g5 g6 g7 => grow1_s s g0 g1 g2 g3 g4 g5 g6 g7 ok s.gs.length [] .nsl 0 b [] (by simp) (.inl ⟨rfl, rfl⟩) (fun x h => by simp at h) (by omega) (by simp) hb (fun q => (metN_nil _ _).symm)
  refine RawC.walk (H := hint92 Try.prog) ir92 Try.func92 rfl rfl rfl ?_
  unfold ir92
  repeat' (first
    | with_reducible (first | refine Rd.p ?_ | refine w_alt ?_ ?_ | refine zE ?_ | refine zE0 ?_)
    | with_reducible (first | refine zI fun y hy => ?_ | refine zL ?_ | refine zS ?_ | refine zA fun _ => ?_ | refine zV ?_ | refine zC ?_ | refine zG ?_ | refine zU ?_ | refine zG0 ?_ | refine zU0 ?_ | refine zF ?_)
    | ((with_reducible refine acall_id ?_); refine ACall.val (comb_s s ok.s4 ok.s6) rfl rfl ?_)
    | ((with_reducible refine acall_id ?_); (refine grow1_top _ _ _ _ _ _ _ _ _ .nsl 0 b [] _ (H _ _ _ _ _ _ _ _) rfl rfl rfl rfl rfl rfl rfl rfl rfl ?_; rintro ⟨x, kv⟩ ⟨hx, _, _⟩; dsimp only at hx ⊢))
    | with_reducible (first | refine zX ?_ | refine zD fun _ => ?_ | refine zD0 ?_ | refine zN ?_ | refine zF0 ?_ | refine zX0 ?_ | refine z1 ?_ | refine z2 ?_ | refine z3 ?_ | refine z4 ?_ | refine z5 ?_ | refine z6 ?_ | refine z7 ?_ | refine z8 ?_ | refine y1 ?_ | refine y2 ?_ | refine y3 ?_ | refine y4 ?_ | refine y5 ?_ | refine y6 ?_ | refine y7 ?_ | refine y8 ?_ | refine Rt.p (fun _ => ?_) fun _ => ?_)
    | ((with_reducible apply w_ixM); (focus exact rfl); (focus exact rfl); case' hk => intro y hy) | ((with_reducible (first | apply w_val | apply q_ends)); (focus exact rfl)))
  exact ⟨x, ⟨rfl, hx⟩, (by repeat' (first | exact slots_nil | apply slots_cons | rfl | (rw [map_snoc]; rfl) | (rw [len_snoc]; rfl) | (rw [hS]; rfl) | (rw [hS, map_snoc]; rfl) | (refine int_eq ?_; (try dsimp only); omega) | (refine congrArg AV.bool ?_; simp_all; done)))⟩
theorem gathE_nd : ∀ (l pre : List Int), pre.Nodup → (∀ x ∈ pre, 0 ≤ x ∧ x ≤ 11) → gathE pre l = 0 → (pre ++ l).Nodup ∧ ∀ x ∈ pre ++ l, 0 ≤ x ∧ x ≤ 11
  | [], pre, hn, hm, _ => by rw [List.append_nil]; exact ⟨hn, hm⟩
  | g :: r, pre, hn, hm, h => by
    rw [gathE] at h
    by_cases hb : inB g 0 11 = true
    · rw [if_pos hb] at h
      by_cases hi : 0 ≤ idxI pre g
      · rw [if_pos hi] at h; exact absurd h (by decide)
      · rw [if_neg hi] at h
        have hg : g ∉ pre := fun hm => hi (idx_mem.2 hm)
        have := gathE_nd r (pre ++ [g]) (by
          rw [List.nodup_append]
          refine ⟨hn, by simp, ?_⟩
          intro a ha b hb2 e
          have : b = g := by simpa using hb2
          exact hg (by rw [← this, ← e]; exact ha)) (by
          intro x hx
          rcases List.mem_append.1 hx with h | h
          · exact hm x h
          · have : x = g := by simpa using h
            rw [this]; exact inB_t.1 hb) h
        rw [List.append_assoc] at this
        exact this
    · rw [if_neg hb] at h; exact absurd h (by decide)
theorem gathE_len {l : List Int} (h : gathE [] l = 0) : l.length ≤ 12 := by
  obtain ⟨hn, hm⟩ := gathE_nd l [] .nil (fun x h => by simp at h) h
  exact nd_len l [0, 1, 2, 3, 4, 5, 6, 7, 8, 9, 10, 11] hn fun x hx => by
    have := hm x hx
    simp only [List.mem_cons, List.mem_nil_iff, or_false]
    omega
theorem gathsE_len : ∀ {gs : List (List Int)}, gathsE gs = 0 → ∀ l ∈ gs, l.length ≤ 12
  | [], _, l, h => by simp at h
  | g :: gs, h, l, hl => by
    rw [gathsE] at h
    by_cases h0 : g = []
    · rw [if_pos h0] at h; exact absurd h (by decide)
    rw [if_neg h0] at h
    by_cases h1 : gathE [] g = 0
    · rw [if_pos h1] at h
      rcases List.mem_cons.1 hl with rfl | hl
      · exact gathE_len h1
      · exact gathsE_len h l hl
    · rw [if_neg h1] at h; exact absurd h h1
theorem okS_of {s : Sea} (h : seaE s = 0) : OkS s := by
  unfold seaE at h
  by_cases h0 : s.ss = []
  · rw [if_pos h0] at h; exact absurd h (by decide)
  rw [if_neg h0] at h
  by_cases h1 : 4 < s.ss.length
  · rw [if_pos h1] at h; exact absurd h (by decide)
  rw [if_neg h1] at h
  by_cases h2 : sortsB s.ss = true
  · rw [if_pos h2] at h
    by_cases h3 : 9 < s.gs.length
    · rw [if_pos h3] at h; exact absurd h (by decide)
    rw [if_neg h3] at h
    exact ⟨by omega, fun x hx => inB_t.1 (List.all_eq_true.1 h2 x hx), by omega, gathsE_len h⟩
  · rw [if_neg h2] at h; exact absurd h (by decide)
theorem plans1_call {s : Sea} {σ : Sig} {d : Nat} {Q : AV → Sig → Prop} (g5 g6 : Nat) (b : List Int) (ok : OkS s) (hb : b.length ≤ 9) (h5 : σ 5 = (g5, .row [optI b])) (h6 : σ 1 = (g6, .row (seC s)))
    (hQ : Q (.tup []) (upd (upd σ 1 (g6, .row (seC s))) 5 (g5, .row [optI (growF s (want1 s) s.gs.length [] 0 b)]))) :
    ACall Try.prog 92 [seA s, .clo (.func 93) [] [.ref 5 g5 0, .ref 1 g6 0]] σ d Q := by
  refine ACall.liftS (plans1_s s g5 g6 b ok hb) [(1000, 5), (1001, 1)] none rfl ?_ ?_ ⟨⟨_, by rw [h5]⟩, ⟨_, by rw [h6]⟩, trivial⟩ (fun _ => rfl) ?_
  · rfl
  · show _ = [(1000, ((σ 5).1, renR _ (σ 5).2)), (1001, ((σ 1).1, renR _ (σ 1).2))]
    rw [h5, h6]; simp only [renR, renL, renL_opt]; rfl
  · rintro x av ⟨rfl, rfl⟩
    show Q _ (upd (upd σ 1 (g6, renR _ (.row (seC s)))) 5 (g5, renR _ (.row [optI _])))
    simp only [renR, renL, renL_opt]; exact hQ
def planF (s : Sea) : List Int := if seaE s = 0 then growF s (want1 s) s.gs.length [] 0 [] else []
theorem Plan_s (s : Sea) (h1 : s.ss.length < 1000) (h2 : s.gs.length < 1000) (h3 : ∀ l ∈ s.gs, l.length < 1000) :
    Fn0 Try.prog 44 [seA s] (fun v => v = .tup [optI (planF s), .int .i64 (seaE s)]) := by
  by_cases he : seaE s = 0
  · have ok := okS_of he
    have hp : planF s = growF s (want1 s) s.gs.length [] 0 [] := by rw [planF, if_pos he]
    rw [hp, he]
    have hck := checkS_s s h1 h2 h3
    rw [he] at hck
    obtain ⟨x, hx⟩ : ∃ x, x = growF s (want1 s) s.gs.length [] 0 [] := ⟨_, rfl⟩
    rw [← hx]
    cases x
    all_goals
      refine RawC.walk (H := hint44 Try.prog) ir44 Try.func44 rfl rfl rfl ?_
      unfold ir44
      repeat' (first
        | with_reducible (first | refine Rd.p ?_ | refine w_alt ?_ ?_ | refine zE ?_ | refine zE0 ?_)
        | with_reducible (first | refine zI fun y hy => ?_ | refine zL ?_ | refine zS ?_ | refine zA fun _ => ?_ | refine zV ?_ | refine zC ?_ | refine zG ?_ | refine zU ?_ | refine zG0 ?_ | refine zU0 ?_ | refine zF ?_)
        | ((with_reducible refine acall_id ?_); refine ACall.val hck rfl rfl ?_)
        | ((with_reducible refine acall_id ?_); (refine plans1_call _ _ [] ok (by simp) rfl rfl ?_; rw [← hx]))
        | with_reducible (first | refine zX ?_ | refine zD fun _ => ?_ | refine zD0 ?_ | refine zN ?_ | refine zF0 ?_ | refine zX0 ?_ | refine z1 ?_ | refine z2 ?_ | refine z3 ?_ | refine z4 ?_ | refine z5 ?_ | refine z6 ?_ | refine z7 ?_ | refine z8 ?_ | refine y1 ?_ | refine y2 ?_ | refine y3 ?_ | refine y4 ?_ | refine y5 ?_ | refine y6 ?_ | refine y7 ?_ | refine y8 ?_ | refine Rt.p (fun _ => ?_) fun _ => ?_)
        | ((with_reducible apply w_ixM); (focus exact rfl); (focus exact rfl); case' hk => intro y hy) | ((with_reducible (first | apply w_val | apply q_ends)); (focus exact rfl)))
      rfl
  · have hp : planF s = [] := by rw [planF, if_neg he]
    rw [hp]
    have hck := checkS_s s h1 h2 h3
    refine RawC.walk (H := hint44 Try.prog) ir44 Try.func44 rfl rfl rfl ?_
    unfold ir44
    repeat' (first
      | with_reducible (first | refine Rd.p ?_ | refine w_alt ?_ ?_ | refine zE ?_ | refine zE0 ?_)
      | with_reducible (first | refine zI fun y hy => ?_ | refine zL ?_ | refine zS ?_ | refine zA fun _ => ?_ | refine zV ?_ | refine zC ?_ | refine zG ?_ | refine zU ?_ | refine zG0 ?_ | refine zU0 ?_ | refine zF ?_)
      | ((with_reducible refine acall_id ?_); refine ACall.val hck rfl rfl ?_)
      | with_reducible (first | refine zX ?_ | refine zD fun _ => ?_ | refine zD0 ?_ | refine zN ?_ | refine zF0 ?_ | refine zX0 ?_ | refine z1 ?_ | refine z2 ?_ | refine z3 ?_ | refine z4 ?_ | refine z5 ?_ | refine z6 ?_ | refine z7 ?_ | refine z8 ?_ | refine y1 ?_ | refine y2 ?_ | refine y3 ?_ | refine y4 ?_ | refine y5 ?_ | refine y6 ?_ | refine y7 ?_ | refine y8 ?_ | refine Rt.p (fun _ => ?_) fun _ => ?_)
      | ((with_reducible apply w_ixM); (focus exact rfl); (focus exact rfl); case' hk => intro y hy) | ((with_reducible (first | apply w_val | apply q_ends)); (focus exact rfl)))
    · rfl
end Go.Abs
