/- A part of the proofs of the laws of this seat: contracts of the functions that they reach, each proved of the program's form in Lean. No condition beyond those that each contract names. -/
import Derived.Test.YtmekfgjlcaonjaaC12
import Derived.Test.YtmekfgjlcaonjaaC11
import Derived.Test.YtmekfgjlcaonjaaC10
import Derived.Test.YtmekfgjlcaonjaaC9
import Derived.Test.YtmekfgjlcaonjaaC8
import Derived.Test.YtmekfgjlcaonjaaC7
import Derived.Test.YtmekfgjlcaonjaaC5
import Derived.Test.YtmekfgjlcaonjaaC4
import Derived.Test.YtmekfgjlcaonjaaC2
import Derived.Test.YtmekfgjlcaonjaaC1
import Derived.Test.YtmekfgjlcaonjaaB
set_option linter.unusedVariables false
set_option linter.unusedSimpArgs false
set_option maxRecDepth 20000
set_option maxHeartbeats 4000000
namespace Go.Abs
open Go.Proofs
/-- aloeswood/store.Fewest$1 -/
def ir95 : IFn :=
  ⟨23, [(7, none)], (.seq (.ops [⟨(some 7), none, (.mov (.k (.bool false)))⟩])
  (.seq (.seq (.ops [⟨(some 8), none, (.ld 1 false (.t 2))⟩,
    ⟨(some 9), none, (.bin .geq (.t 8) (.k (.int .i64 0)))⟩,
    ⟨(some 10), none, (.mov (.t 9))⟩,
    ⟨(some 11), (some (10, true)), (.mov (.t 1))⟩,
    ⟨(some 12), (some (10, true)), (.ld 1 false (.t 2))⟩,
    ⟨(some 13), (some (10, true)), (.bin .geq (.t 11) (.t 12))⟩,
    ⟨(some 14), none, (.pick (.t 10) (.t 13) (.k (.bool false)))⟩])
  (.cnd (.t 14)
    (.seq (.ops [⟨(some 7), none, (.mov (.k (.bool false)))⟩])
    .ret)
    .skip))
  (.seq (.seq (.ops [⟨(some 15), none, (.mov (.t 0))⟩,
    ⟨(some 16), none, (.len false (.t 15))⟩,
    ⟨(some 17), none, (.flA 1 (.t 3))⟩,
    ⟨(some 18), none, (.ld 1 false (.t 17))⟩,
    ⟨(some 19), none, (.len false (.t 18))⟩,
    ⟨(some 20), none, (.bin .eql (.t 16) (.t 19))⟩])
  (.cnd (.t 20)
    (.ops [⟨(some 21), none, (.mov (.t 0))⟩,
      ⟨(some 22), none, (.mov (.t 1))⟩,
      ⟨none, none, (.st 1 (.t 4) (.t 21))⟩,
      ⟨none, none, (.st 1 (.t 2) (.t 22))⟩])
    .skip))
  (.seq (.ops [⟨(some 7), none, (.mov (.k (.bool true)))⟩])
  .ret))))⟩
def hint95 (P : Program) : Hint := {}
/-- What Fewest wants. -/
def want2 (s : Sea) (st : List Int × Int) (p : List Int) (r : Int) : (List Int × Int) × Bool :=
  if 0 ≤ st.2 ∧ st.2 ≤ r then (st, false) else if p.length = s.gs.length then ((p, r), true) else (st, true)
theorem want2_s (s : Sea) (gm g2 gb : Nat) (b : List Int × Int) (p : List Int) (a : AV) (r : Int) (ha : NowV a p) (hp : p.length < 1000) (hg : s.gs.length < 1000) :
    RawC Try.prog 95 [a, .int .i64 r, .ref 1000 gm 0, .ref 1001 g2 0, .ref 1002 gb 0] (sg [(1000, (gm, .row [.int .i64 b.2])), (1001, (g2, .row (seC s))), (1002, (gb, .row [optI b.1]))])
      (SR (fun _ : Unit => fun v => v = .bool (want2 s b p r).2) (fun _ => [(1000, (gm, .row [.int .i64 (want2 s b p r).1.2])), (1001, (g2, .row (seC s))), (1002, (gb, .row [optI (want2 s b p r).1.1]))])) := by
  obtain ⟨b, m⟩ := b
  by_cases h1 : 0 ≤ m ∧ m ≤ r
  · have hw : want2 s (b, m) p r = ((b, m), false) := by rw [want2, if_pos h1]
    have h1a := h1.1
    have h1b := h1.2
    rw [hw]
    refine RawC.walk (H := hint95 Try.prog) ir95 Try.func95 rfl rfl rfl ?_
    unfold ir95
    repeat' (first
      | with_reducible (first | refine Rd.p ?_ | refine w_alt ?_ ?_ | refine zE ?_ | refine zE0 ?_)
      | with_reducible (first | refine zI fun y hy => ?_ | refine zL ?_ | refine zS ?_ | refine zA fun _ => ?_ | refine zV ?_ | refine zC ?_ | refine zG ?_ | refine zU ?_ | refine zG0 ?_ | refine zU0 ?_ | refine zF ?_)
      | with_reducible (first | refine zX ?_ | refine zD fun _ => ?_ | refine zD0 ?_ | refine zN ?_ | refine zF0 ?_ | refine zX0 ?_ | refine z1 ?_ | refine z2 ?_ | refine z3 ?_ | refine z4 ?_ | refine z5 ?_ | refine z6 ?_ | refine z7 ?_ | refine z8 ?_ | refine y1 ?_ | refine y2 ?_ | refine y3 ?_ | refine y4 ?_ | refine y5 ?_ | refine y6 ?_ | refine y7 ?_ | refine y8 ?_ | refine Rt.p (fun _ => ?_) fun _ => ?_)
      | ((with_reducible apply w_ixM); (focus exact rfl); (focus exact rfl); case' hk => intro y hy) | ((with_reducible (first | apply w_val | apply q_ends)); (focus exact rfl)))
    exact ⟨(), rfl, rfl, rfl, rfl, trivial⟩
  have h0 : ([] : List Int).length = 0 := rfl
  have hor : ¬ 0 ≤ m ∨ ¬ m ≤ r := by omega
  by_cases hl : p.length = s.gs.length
  · have hw : want2 s (b, m) p r = ((p, r), true) := by rw [want2, if_neg h1, if_pos hl]
    rw [hw]
    rcases ha with ⟨rfl, rfl⟩ | ⟨rfl, hne⟩
    · have hl0 : s.gs.length = 0 := hl.symm
      refine RawC.walk (H := hint95 Try.prog) ir95 Try.func95 rfl rfl rfl ?_
      unfold ir95
      repeat' (first
        | with_reducible (first | refine Rd.p ?_ | refine w_alt ?_ ?_ | refine zE ?_ | refine zE0 ?_)
        | with_reducible (first | refine zI fun y hy => ?_ | refine zL ?_ | refine zS ?_ | refine zA fun _ => ?_ | refine zV ?_ | refine zC ?_ | refine zG ?_ | refine zU ?_ | refine zG0 ?_ | refine zU0 ?_ | refine zF ?_)
        | with_reducible (first | refine zX ?_ | refine zD fun _ => ?_ | refine zD0 ?_ | refine zN ?_ | refine zF0 ?_ | refine zX0 ?_ | refine z1 ?_ | refine z2 ?_ | refine z3 ?_ | refine z4 ?_ | refine z5 ?_ | refine z6 ?_ | refine z7 ?_ | refine z8 ?_ | refine y1 ?_ | refine y2 ?_ | refine y3 ?_ | refine y4 ?_ | refine y5 ?_ | refine y6 ?_ | refine y7 ?_ | refine y8 ?_ | refine Rt.p (fun _ => ?_) fun _ => ?_)
        | ((with_reducible apply w_ixM); (focus exact rfl); (focus exact rfl); case' hk => intro y hy) | ((with_reducible (first | apply w_val | apply q_ends)); (focus exact rfl)))
      all_goals first | (exfalso; omega) | exact ⟨(), rfl, rfl, rfl, rfl, trivial⟩
    · cases p with
      | nil => exact absurd rfl hne
      | cons p0 p =>
        refine RawC.walk (H := hint95 Try.prog) ir95 Try.func95 rfl rfl rfl ?_
        unfold ir95
        repeat' (first
          | with_reducible (first | refine Rd.p ?_ | refine w_alt ?_ ?_ | refine zE ?_ | refine zE0 ?_)
          | with_reducible (first | refine zI fun y hy => ?_ | refine zL ?_ | refine zS ?_ | refine zA fun _ => ?_ | refine zV ?_ | refine zC ?_ | refine zG ?_ | refine zU ?_ | refine zG0 ?_ | refine zU0 ?_ | refine zF ?_)
          | with_reducible (first | refine zX ?_ | refine zD fun _ => ?_ | refine zD0 ?_ | refine zN ?_ | refine zF0 ?_ | refine zX0 ?_ | refine z1 ?_ | refine z2 ?_ | refine z3 ?_ | refine z4 ?_ | refine z5 ?_ | refine z6 ?_ | refine z7 ?_ | refine z8 ?_ | refine y1 ?_ | refine y2 ?_ | refine y3 ?_ | refine y4 ?_ | refine y5 ?_ | refine y6 ?_ | refine y7 ?_ | refine y8 ?_ | refine Rt.p (fun _ => ?_) fun _ => ?_)
          | ((with_reducible apply w_ixM); (focus exact rfl); (focus exact rfl); case' hk => intro y hy) | ((with_reducible (first | apply w_val | apply q_ends)); (focus exact rfl)))
        all_goals first | (exfalso; omega) | exact ⟨(), rfl, rfl, rfl, rfl, trivial⟩
  · have hw : want2 s (b, m) p r = ((b, m), true) := by rw [want2, if_neg h1, if_neg hl]
    rw [hw]
    rcases ha with ⟨rfl, rfl⟩ | ⟨rfl, hne⟩
    · have hl0 : ¬ s.gs.length = 0 := fun h => hl h.symm
      refine RawC.walk (H := hint95 Try.prog) ir95 Try.func95 rfl rfl rfl ?_
      unfold ir95
      repeat' (first
        | with_reducible (first | refine Rd.p ?_ | refine w_alt ?_ ?_ | refine zE ?_ | refine zE0 ?_)
        | with_reducible (first | refine zI fun y hy => ?_ | refine zL ?_ | refine zS ?_ | refine zA fun _ => ?_ | refine zV ?_ | refine zC ?_ | refine zG ?_ | refine zU ?_ | refine zG0 ?_ | refine zU0 ?_ | refine zF ?_)
        | with_reducible (first | refine zX ?_ | refine zD fun _ => ?_ | refine zD0 ?_ | refine zN ?_ | refine zF0 ?_ | refine zX0 ?_ | refine z1 ?_ | refine z2 ?_ | refine z3 ?_ | refine z4 ?_ | refine z5 ?_ | refine z6 ?_ | refine z7 ?_ | refine z8 ?_ | refine y1 ?_ | refine y2 ?_ | refine y3 ?_ | refine y4 ?_ | refine y5 ?_ | refine y6 ?_ | refine y7 ?_ | refine y8 ?_ | refine Rt.p (fun _ => ?_) fun _ => ?_)
        | ((with_reducible apply w_ixM); (focus exact rfl); (focus exact rfl); case' hk => intro y hy) | ((with_reducible (first | apply w_val | apply q_ends)); (focus exact rfl)))
      all_goals first | (exfalso; omega) | exact ⟨(), rfl, rfl, rfl, rfl, trivial⟩
    · refine RawC.walk (H := hint95 Try.prog) ir95 Try.func95 rfl rfl rfl ?_
      unfold ir95
      repeat' (first
        | with_reducible (first | refine Rd.p ?_ | refine w_alt ?_ ?_ | refine zE ?_ | refine zE0 ?_)
        | with_reducible (first | refine zI fun y hy => ?_ | refine zL ?_ | refine zS ?_ | refine zA fun _ => ?_ | refine zV ?_ | refine zC ?_ | refine zG ?_ | refine zU ?_ | refine zG0 ?_ | refine zU0 ?_ | refine zF ?_)
        | with_reducible (first | refine zX ?_ | refine zD fun _ => ?_ | refine zD0 ?_ | refine zN ?_ | refine zF0 ?_ | refine zX0 ?_ | refine z1 ?_ | refine z2 ?_ | refine z3 ?_ | refine z4 ?_ | refine z5 ?_ | refine z6 ?_ | refine z7 ?_ | refine z8 ?_ | refine y1 ?_ | refine y2 ?_ | refine y3 ?_ | refine y4 ?_ | refine y5 ?_ | refine y6 ?_ | refine y7 ?_ | refine y8 ?_ | refine Rt.p (fun _ => ?_) fun _ => ?_)
        | ((with_reducible apply w_ixM); (focus exact rfl); (focus exact rfl); case' hk => intro y hy) | ((with_reducible (first | apply w_val | apply q_ends)); (focus exact rfl)))
      all_goals first | (exfalso; omega) | exact ⟨(), rfl, rfl, rfl, rfl, trivial⟩
def planS2 (s : Sea) (g0 g1 g2 g3 g4 g5 g6 g7 g8 : Nat) (b : List Int × Int) (kv : List ((Int × Int) × Int)) : List (Nat × (Nat × Res)) :=
  [(1000, (g0, .row [.clo (.func 95) [] [.ref 1005 g5 0, .ref 1006 g6 0, .ref 1008 g8 0]])), (1001, (g1, .row (seC s))), (1002, (g2, .row [.int .i64 (combF s.ss)])), (1003, (g3, .row [.map 1007 g7])),
   (1004, (g4, .row [.clo (.func 125) [] [.ref 1000 g0 0, .ref 1001 g1 0, .ref 1002 g2 0, .ref 1003 g3 0, .ref 1004 g4 0]])), (1005, (g5, .row [.int .i64 b.2])), (1006, (g6, .row (seC s))), (1007, (g7, .row [.mpv (kvK kv) (kvV kv)])), (1008, (g8, .row [optI b.1]))]
theorem want2_call {s : Sea} {σ : Sig} {d : Nat} {Q : AV → Sig → Prop} (g5 g6 g8 : Nat) (b : List Int × Int) (p : List Int) (a : AV) (r : Int) (ha : NowV a p) (hp : p.length < 1000) (hg : s.gs.length < 1000)
    (h5 : σ 1005 = (g5, .row [.int .i64 b.2])) (h6 : σ 1006 = (g6, .row (seC s))) (h8 : σ 1008 = (g8, .row [optI b.1])) (hQ : Q (.bool (want2 s b p r).2) (upd (upd (upd σ 1008 (g8, .row [optI (want2 s b p r).1.1])) 1006 (g6, .row (seC s))) 1005 (g5, .row [.int .i64 (want2 s b p r).1.2]))) :
    ACall Try.prog 95 [a, .int .i64 r, .ref 1005 g5 0, .ref 1006 g6 0, .ref 1008 g8 0] σ d Q := by
  have ho : ∀ (ρ : List (Nat × Nat)) (l : List Int), ren ρ (optI l) = optI l := fun ρ l => by cases l <;> rfl
  refine ACall.liftS (want2_s s g5 g6 g8 b p a r ha hp hg) [(1000, 1005), (1001, 1006), (1002, 1008)] none rfl ?_ ?_ ⟨⟨_, by rw [h5]⟩, ⟨_, by rw [h6]⟩, ⟨_, by rw [h8]⟩, trivial⟩ (fun _ => rfl) ?_
  · rcases ha with ⟨rfl, _⟩ | ⟨rfl, _⟩ <;> rfl
  · show _ = [(1000, ((σ 1005).1, renR _ (σ 1005).2)), (1001, ((σ 1006).1, renR _ (σ 1006).2)), (1002, ((σ 1008).1, renR _ (σ 1008).2))]
    rw [h5, h6, h8]; simp only [renR, renL, ho]; rfl
  · rintro u av rfl
    show Q _ (upd (upd (upd σ 1008 (g8, renR _ (.row _))) 1006 (g6, renR _ (.row _))) 1005 (g5, renR _ (.row _)))
    simp only [renR, renL, ho]; exact hQ
theorem grow2_call {s : Sea} {σ : Sig} {d : Nat} {Q : AV → Sig → Prop} (g0 g1 g2 g3 g4 g5 g6 g7 g8 : Nat) (a a' : AV) (r : Int) (b : List Int × Int) (p : List Int) (kv : List ((Int × Int) × Int)) (R : (List Int × Int) × List ((Int × Int) × Int) → Prop)
    (H : RawC Try.prog 125 [a, .int .i64 r, .ref 1000 g0 0, .ref 1001 g1 0, .ref 1002 g2 0, .ref 1003 g3 0, .ref 1004 g4 0] (sg (planS2 s g0 g1 g2 g3 g4 g5 g6 g7 g8 b kv)) (SR (fun (x : (List Int × Int) × List ((Int × Int) × Int)) v => v = .tup [] ∧ R x) (fun x => planS2 s g0 g1 g2 g3 g4 g5 g6 g7 g8 x.1 x.2))) (ha : a = ren (flipL [(1000, 1000), (1001, 1001), (1002, 1002), (1003, 1003), (1004, 1004), (1005, 1005), (1006, 1006), (1007, 1007), (1008, 1008)]) a')
    (h0 : σ 1000 = (g0, .row [.clo (.func 95) [] [.ref 1005 g5 0, .ref 1006 g6 0, .ref 1008 g8 0]])) (h1 : σ 1001 = (g1, .row (seC s))) (h2 : σ 1002 = (g2, .row [.int .i64 (combF s.ss)])) (h3 : σ 1003 = (g3, .row [.map 1007 g7])) (h4 : σ 1004 = (g4, .row [.clo (.func 125) [] [.ref 1000 g0 0, .ref 1001 g1 0, .ref 1002 g2 0, .ref 1003 g3 0, .ref 1004 g4 0]])) (h5 : σ 1005 = (g5, .row [.int .i64 b.2])) (h6 : σ 1006 = (g6, .row (seC s))) (h7 : σ 1007 = (g7, .row [.mpv (kvK kv) (kvV kv)])) (h8 : σ 1008 = (g8, .row [optI b.1]))
    (hQ : ∀ x, R x → Q (.tup []) (upd (upd (upd (upd (upd (upd (upd (upd (upd σ 1008 (g8, .row [optI x.1.1])) 1007 (g7, .row [.mpv (kvK x.2) (kvV x.2)])) 1006 (g6, .row (seC s))) 1005 (g5, .row [.int .i64 x.1.2])) 1004 (g4, .row [.clo (.func 125) [] [.ref 1000 g0 0, .ref 1001 g1 0, .ref 1002 g2 0, .ref 1003 g3 0, .ref 1004 g4 0]])) 1003 (g3, .row [.map 1007 g7])) 1002 (g2, .row [.int .i64 (combF s.ss)])) 1001 (g1, .row (seC s))) 1000 (g0, .row [.clo (.func 95) [] [.ref 1005 g5 0, .ref 1006 g6 0, .ref 1008 g8 0]]))) :
    ACall Try.prog 125 [a', .int .i64 r, .ref 1000 g0 0, .ref 1001 g1 0, .ref 1002 g2 0, .ref 1003 g3 0, .ref 1004 g4 0] σ d Q := by
  refine ACall.liftS H [(1000, 1000), (1001, 1001), (1002, 1002), (1003, 1003), (1004, 1004), (1005, 1005), (1006, 1006), (1007, 1007), (1008, 1008)] none rfl ?_ ?_ ⟨⟨_, by rw [h0]⟩, ⟨_, by rw [h1]⟩, ⟨_, by rw [h2]⟩, ⟨_, by rw [h3]⟩, ⟨_, by rw [h4]⟩, ⟨_, by rw [h5]⟩, ⟨_, by rw [h6]⟩, ⟨_, by rw [h7]⟩, ⟨_, by rw [h8]⟩, trivial⟩ (fun _ => rfl) ?_
  · rw [ha]; rfl
  · show _ = [(1000, ((σ 1000).1, renR _ (σ 1000).2)), (1001, ((σ 1001).1, renR _ (σ 1001).2)), (1002, ((σ 1002).1, renR _ (σ 1002).2)), (1003, ((σ 1003).1, renR _ (σ 1003).2)), (1004, ((σ 1004).1, renR _ (σ 1004).2)), (1005, ((σ 1005).1, renR _ (σ 1005).2)), (1006, ((σ 1006).1, renR _ (σ 1006).2)), (1007, ((σ 1007).1, renR _ (σ 1007).2)), (1008, ((σ 1008).1, renR _ (σ 1008).2))]
    rw [h0, h1, h2, h3, h4, h5, h6, h7, h8]; simp only [renR, renL, renL_opt]; rfl
  · rintro x av ⟨rfl, hR⟩
    have := hQ x hR
    show Q _ (upd (upd (upd (upd (upd (upd (upd (upd (upd σ 1008 (g8, renR _ (.row [optI x.1.1]))) 1007 (g7, renR _ (.row [.mpv (kvK x.2) (kvV x.2)]))) 1006 (g6, renR _ (.row (seC s)))) 1005 (g5, renR _ (.row [.int .i64 x.1.2]))) 1004 (g4, renR _ (.row [.clo (.func 125) [] [.ref 1000 g0 0, .ref 1001 g1 0, .ref 1002 g2 0, .ref 1003 g3 0, .ref 1004 g4 0]]))) 1003 (g3, renR _ (.row [.map 1007 g7]))) 1002 (g2, renR _ (.row [.int .i64 (combF s.ss)]))) 1001 (g1, renR _ (.row (seC s)))) 1000 (g0, renR _ (.row [.clo (.func 95) [] [.ref 1005 g5 0, .ref 1006 g6 0, .ref 1008 g8 0]])))
    simp only [renR, renL, renL_opt]; exact this
theorem grow2_s (s : Sea) (g0 g1 g2 g3 g4 g5 g6 g7 g8 : Nat) (ok : OkS s) : ∀ (k : Nat) (p : List Int) (a : AV) (r : Int) (b : List Int × Int) (kv : List ((Int × Int) × Int)), p.length + k = s.gs.length → NowV a p → (∀ x ∈ p, 0 ≤ x ∧ x < combF s.ss) → 0 ≤ r → r ≤ 12 * p.length → (∀ q, mget kv q = metN s.gs p q) →
    RawC Try.prog 125 [a, .int .i64 r, .ref 1000 g0 0, .ref 1001 g1 0, .ref 1002 g2 0, .ref 1003 g3 0, .ref 1004 g4 0] (sg (planS2 s g0 g1 g2 g3 g4 g5 g6 g7 g8 b kv))
      (SR (fun (x : (List Int × Int) × List ((Int × Int) × Int)) v => v = .tup [] ∧ x.1 = growF s (want2 s) k p r b ∧ (∀ q, mget x.2 q = metN s.gs p q)) (fun x => planS2 s g0 g1 g2 g3 g4 g5 g6 g7 g8 x.1 x.2))
  | 0, p, a, r, b, kv, hk, ha, hp, hr0, hr1, hkv => by
    have h9 := ok.g9
    have hNV := ha
    rcases ha with ⟨rfl, hp0⟩ | ⟨rfl, hne⟩
    all_goals
      (try have h0 : p.length = 0 := by rw [hp0]; rfl)
      refine RawC.walk (H := hint125 Try.prog) ir125 Try.func125 rfl rfl rfl ?_
      unfold ir125
      repeat' (first
        | with_reducible (first | refine Rd.p ?_ | refine w_alt ?_ ?_ | refine zE ?_ | refine zE0 ?_)
        | with_reducible (first | refine zI fun y hy => ?_ | refine zL ?_ | refine zS ?_ | refine zA fun _ => ?_ | refine zV ?_ | refine zC ?_ | refine zG ?_ | refine zU ?_ | refine zG0 ?_ | refine zU0 ?_ | refine zF ?_)
        | ((with_reducible refine acall_id ?_); (refine want2_call _ _ _ b p _ r hNV (by omega) (by omega) rfl rfl rfl ?_))
        | with_reducible (first | refine zX ?_ | refine zD fun _ => ?_ | refine zD0 ?_ | refine zN ?_ | refine zF0 ?_ | refine zX0 ?_ | refine z1 ?_ | refine z2 ?_ | refine z3 ?_ | refine z4 ?_ | refine z5 ?_ | refine z6 ?_ | refine z7 ?_ | refine z8 ?_ | refine y1 ?_ | refine y2 ?_ | refine y3 ?_ | refine y4 ?_ | refine y5 ?_ | refine y6 ?_ | refine y7 ?_ | refine y8 ?_ | refine Rt.p (fun _ => ?_) fun _ => ?_)
        | ((with_reducible apply w_ixM); (focus exact rfl); (focus exact rfl); case' hk => intro y hy) | ((with_reducible (first | apply w_val | apply q_ends)); (focus exact rfl)))
      all_goals exact ⟨((want2 s b p r).1, kv), ⟨rfl, rfl, hkv⟩, (by repeat' (first | exact slots_nil | apply slots_cons | rfl | (rw [map_snoc]; rfl) | (rw [len_snoc]; rfl) | (rw [hS]; rfl) | (rw [hS, map_snoc]; rfl) | (refine int_eq ?_; (try dsimp only); omega) | (refine congrArg AV.bool ?_; simp_all; done)))⟩
  | k + 1, p, a, r, b, kv, hk, ha, hp, hr0, hr1, hkv => by
    have h9 := ok.g9
    have hNV := ha
    obtain ⟨f, hf⟩ : ∃ f : List Int × Int → Nat → List Int × Int, f = fun (st : List Int × Int) (n : Nat) => growF s (want2 s) k (p ++ [(n : Int)]) (r + againN s.gs p (n : Int)) st := ⟨_, rfl⟩
    obtain ⟨T, hT⟩ : ∃ T : Nat, T = (min (combF s.ss) (usedF p + 1)).toNat := ⟨_, rfl⟩
    obtain ⟨b1, hb1⟩ : ∃ b1, b1 = (want2 s b p r).1 := ⟨_, rfl⟩
    have hgr : growF s (want2 s) (k + 1) p r b = if (want2 s b p r).2 = true then foldI f T 0 b1 else b1 := by rw [growF, hf, hT, hb1]
    rw [hgr]
    have hcb := combF_bd s.ss.length s.ss rfl ok.s6
    have hcb2 : combF s.ss ≤ 1296 := by
      have h4 := ok.s4
      have : (6 : Int) ^ s.ss.length ≤ 1296 := by
        rcases (by omega : s.ss.length = 0 ∨ s.ss.length = 1 ∨ s.ss.length = 2 ∨ s.ss.length = 3 ∨ s.ss.length = 4) with h | h | h | h | h
        all_goals (rw [h]; decide)
      omega
    have hub := usedF_bd p hp (by omega)
    have hg12 := ok.g12 _ (gAt_mem (show p.length < s.gs.length by omega))
    have hmb := metN_bd s.gs p (0, 0) ok.g12
    have hcl := cloneO_c p a ha (by omega)
    have hag : ∀ n : Nat, 0 ≤ againN s.gs p n ∧ againN s.gs p n ≤ 12 := by
      intro n
      have : ((gAt s.gs p.length).filter fun g => decide (0 < metN s.gs p (g, (n : Int)))).length ≤ (gAt s.gs p.length).length := List.length_filter_le _ _
      unfold againN; omega
    have hpn : ∀ n : Nat, (p ++ [(n : Int)]).length = p.length + 1 := fun n => by simp
    rcases ha with ⟨rfl, hp0⟩ | ⟨rfl, hne⟩
    all_goals
      (try have h0 : p.length = 0 := by rw [hp0]; rfl)
      refine RawC.walk (H := hint125 Try.prog) ir125 Try.func125 rfl rfl rfl ?_
      unfold ir125
      repeat' (first
        | with_reducible (first | refine Rd.p ?_ | refine w_alt ?_ ?_ | refine zE ?_ | refine zE0 ?_)
        | (first | refine w_ixLL (n := p.length) rfl rfl (by omega) ?_ | (refine w_ixLL (n := 0) rfl rfl (by omega) ?_; rw [show gAt s.gs 0 = gAt s.gs p.length from by rw [h0]]))
        | with_reducible (first | refine zI fun y hy => ?_ | refine zL ?_ | refine zS ?_ | refine zA fun _ => ?_ | refine zV ?_ | refine zC ?_ | refine zG ?_ | refine zU ?_ | refine zG0 ?_ | refine zU0 ?_ | refine zF ?_)
        | ((with_reducible refine acall_id ?_); (refine want2_call _ _ _ b p _ r hNV (by omega) (by omega) rfl rfl rfl ?_; rw [← hb1]))
        | with_reducible (first | refine zX ?_ | refine zD fun _ => ?_ | refine zD0 ?_ | refine zN ?_ | refine zF0 ?_ | refine zX0 ?_ | refine z1 ?_ | refine z2 ?_ | refine z3 ?_ | refine z4 ?_ | refine z5 ?_ | refine z6 ?_ | refine z7 ?_ | refine z8 ?_ | refine y1 ?_ | refine y2 ?_ | refine y3 ?_ | refine y4 ?_ | refine y5 ?_ | refine y6 ?_ | refine y7 ?_ | refine y8 ?_ | refine Rt.p (fun _ => ?_) fun _ => ?_)
        | ((with_reducible apply w_ixM); (focus exact rfl); (focus exact rfl); case' hk => intro y hy) | ((with_reducible (first | apply w_val | apply q_ends)); (focus exact rfl)))
      · rename_i hc
        rw [if_neg (by simp [hc])]
        exact ⟨(b1, kv), ⟨rfl, rfl, hkv⟩, (by repeat' (first | exact slots_nil | apply slots_cons | rfl | (rw [map_snoc]; rfl) | (rw [len_snoc]; rfl) | (rw [hS]; rfl) | (rw [hS, map_snoc]; rfl) | (refine int_eq ?_; (try dsimp only); omega) | (refine congrArg AV.bool ?_; simp_all; done)))⟩
      rename_i hc
      rw [if_pos hc]
      refine w_loopK [0, 1, 4, 5, 6, 9, 34, 35] [1000, 1001, 1002, 1003, 1004, 1005, 1006, 1007, 1008] (fun x : List Int × List Int => p = x.1 ++ x.2) (fun x => x.2.length) (fun x => [(36, .int .i64 x.1.length), (10, .int .i64 (usedF x.1))]) (fun _ => []) ([], p) rfl ⟨rfl, rfl, trivial⟩ trivial ?_
      rintro ⟨pre, post⟩ hpp e σ
      dsimp only at hpp ⊢
      have hlen := congrArg List.length hpp
      rw [List.length_append] at hlen
      cases post with
      | cons x post =>
        simp only [List.length_cons] at hlen
        first
          | (exfalso; omega)
          | (have hx := hp x (by rw [hpp]; simp)
             have hux := usedF_snoc pre x
             repeat' (first
               | with_reducible (first | refine Rd.p ?_ | refine w_alt ?_ ?_ | refine zE ?_ | refine zE0 ?_)
               | (refine w_ixP (pre := pre) (y := x) (post := post) hpp rfl rfl ?_)
               | with_reducible (first | refine zI fun y hy => ?_ | refine zL ?_ | refine zS ?_ | refine zA fun _ => ?_ | refine zV ?_ | refine zC ?_ | refine zG ?_ | refine zU ?_ | refine zG0 ?_ | refine zU0 ?_ | refine zF ?_)
               | with_reducible (first | refine zX ?_ | refine zD fun _ => ?_ | refine zD0 ?_ | refine zN ?_ | refine zF0 ?_ | refine zX0 ?_ | refine z1 ?_ | refine z2 ?_ | refine z3 ?_ | refine z4 ?_ | refine z5 ?_ | refine z6 ?_ | refine z7 ?_ | refine z8 ?_ | refine y1 ?_ | refine y2 ?_ | refine y3 ?_ | refine y4 ?_ | refine y5 ?_ | refine y6 ?_ | refine y7 ?_ | refine y8 ?_ | refine Rt.p (fun _ => ?_) fun _ => ?_)
               | ((with_reducible apply w_ixM); (focus exact rfl); (focus exact rfl); case' hk => intro y hy) | ((with_reducible (first | apply w_val | apply q_ends)); (focus exact rfl)))
             refine q_loop (pre ++ [x], post) ?_ ?_ (slots_cons (by show AV.int .i64 _ = AV.int .i64 _; refine int_eq ?_; simp) (slots_cons (by show AV.int .i64 _ = AV.int .i64 _; rw [hux]) slots_nil)) trivial (by repeat' (first | exact kept_nil | apply kept_cons | rfl)) (by repeat' (first | exact kept_nil | apply kept_cons | rfl))
             · dsimp only; rw [hpp]; simp
             · simp)
      | nil =>
        rw [List.append_nil] at hpp
        subst hpp
        simp only [List.length_nil] at hlen
        repeat' (first
          | with_reducible (first | refine Rd.p ?_ | refine w_alt ?_ ?_ | refine zE ?_ | refine zE0 ?_)
          | with_reducible (first | refine zI fun y hy => ?_ | refine zL ?_ | refine zS ?_ | refine zA fun _ => ?_ | refine zV ?_ | refine zC ?_ | refine zG ?_ | refine zU ?_ | refine zG0 ?_ | refine zU0 ?_ | refine zF ?_)
          | with_reducible (first | refine zX ?_ | refine zD fun _ => ?_ | refine zD0 ?_ | refine zN ?_ | refine zF0 ?_ | refine zX0 ?_ | refine z1 ?_ | refine z2 ?_ | refine z3 ?_ | refine z4 ?_ | refine z5 ?_ | refine z6 ?_ | refine z7 ?_ | refine z8 ?_ | refine y1 ?_ | refine y2 ?_ | refine y3 ?_ | refine y4 ?_ | refine y5 ?_ | refine y6 ?_ | refine y7 ?_ | refine y8 ?_ | refine Rt.p (fun _ => ?_) fun _ => ?_)
          | ((with_reducible apply w_ixM); (focus exact rfl); (focus exact rfl); case' hk => intro y hy) | ((with_reducible (first | apply w_val | apply q_ends)); (focus exact rfl)))
        refine w_loopK [0, 1, 5, 6, 9, 48] [1000, 1001, 1002, 1003, 1004, 1006] (fun x : Nat × (List Int × Int) × List ((Int × Int) × Int) => x.1 ≤ T ∧ foldI f T 0 b1 = foldI f (T - x.1) x.1 x.2.1 ∧ (∀ q, mget x.2.2 q = metN s.gs p q)) (fun x => T - x.1) (fun x => [(49, .int .i64 x.1)]) (fun x => [(1005, (g5, .row [.int .i64 x.2.1.2])), (1008, (g8, .row [optI x.2.1.1])), (1007, (g7, .row [.mpv (kvK x.2.2) (kvV x.2.2)]))]) (0, b1, kv) ⟨Nat.zero_le _, rfl, hkv⟩ ⟨rfl, trivial⟩ ⟨rfl, rfl, rfl, trivial⟩ ?_
        rintro ⟨n, b', kv'⟩ ⟨hn, hfo, hkv'⟩ e σ
        dsimp only at hn hfo hkv' ⊢
        by_cases hnT : n = T
        · rw [hnT, Nat.sub_self, foldI] at hfo
          repeat' (first
            | with_reducible (first | refine Rd.p ?_ | refine w_alt ?_ ?_ | refine zE ?_ | refine zE0 ?_)
            | with_reducible (first | refine zI fun y hy => ?_ | refine zL ?_ | refine zS ?_ | refine zA fun _ => ?_ | refine zV ?_ | refine zC ?_ | refine zG ?_ | refine zU ?_ | refine zG0 ?_ | refine zU0 ?_ | refine zF ?_)
            | with_reducible (first | refine zX ?_ | refine zD fun _ => ?_ | refine zD0 ?_ | refine zN ?_ | refine zF0 ?_ | refine zX0 ?_ | refine z1 ?_ | refine z2 ?_ | refine z3 ?_ | refine z4 ?_ | refine z5 ?_ | refine z6 ?_ | refine z7 ?_ | refine z8 ?_ | refine y1 ?_ | refine y2 ?_ | refine y3 ?_ | refine y4 ?_ | refine y5 ?_ | refine y6 ?_ | refine y7 ?_ | refine y8 ?_ | refine Rt.p (fun _ => ?_) fun _ => ?_)
            | ((with_reducible apply w_ixM); (focus exact rfl); (focus exact rfl); case' hk => intro y hy) | ((with_reducible (first | apply w_val | apply q_ends)); (focus exact rfl)))
          exact ⟨(b', kv'), ⟨rfl, hfo.symm, hkv'⟩, (by repeat' (first | exact slots_nil | apply slots_cons | rfl | (rw [map_snoc]; rfl) | (rw [len_snoc]; rfl) | (rw [hS]; rfl) | (rw [hS, map_snoc]; rfl) | (refine int_eq ?_; (try dsimp only); omega) | (refine congrArg AV.bool ?_; simp_all; done)))⟩
        · have hnT2 : n < T := by omega
          rw [show T - n = (T - (n + 1)) + 1 by omega, foldI] at hfo
          have hfn : f b' n = growF s (want2 s) k (p ++ [(n : Int)]) (r + againN s.gs p (n : Int)) b' := by rw [hf]
          have hagn := hag n
          have hpn1 := hpn n
          repeat' (first
            | with_reducible (first | refine Rd.p ?_ | refine w_alt ?_ ?_ | refine zE ?_ | refine zE0 ?_)
            | with_reducible (first | refine zI fun y hy => ?_ | refine zL ?_ | refine zS ?_ | refine zA fun _ => ?_ | refine zV ?_ | refine zC ?_ | refine zG ?_ | refine zU ?_ | refine zG0 ?_ | refine zU0 ?_ | refine zF ?_)
            | ((with_reducible refine acall_id ?_); (refine again_call kv' g7 (gAt s.gs p.length) n hg12 rfl rfl ?_; intro ys ag hNa hys))
            | with_reducible (first | refine zX ?_ | refine zD fun _ => ?_ | refine zD0 ?_ | refine zN ?_ | refine zF0 ?_ | refine zX0 ?_ | refine z1 ?_ | refine z2 ?_ | refine z3 ?_ | refine z4 ?_ | refine z5 ?_ | refine z6 ?_ | refine z7 ?_ | refine z8 ?_ | refine y1 ?_ | refine y2 ?_ | refine y3 ?_ | refine y4 ?_ | refine y5 ?_ | refine y6 ?_ | refine y7 ?_ | refine y8 ?_ | refine Rt.p (fun _ => ?_) fun _ => ?_)
            | ((with_reducible apply w_ixM); (focus exact rfl); (focus exact rfl); case' hk => intro y hy) | ((with_reducible (first | apply w_val | apply q_ends)); (focus exact rfl)))
          have hpx : ∀ x ∈ p ++ [(n : Int)], 0 ≤ x ∧ x < combF s.ss := by
            intro x hx
            rcases List.mem_append.1 hx with h | h
            · exact hp x h
            · have : x = (n : Int) := by simpa using h
              omega
          have hl2 : (ys.length : Int) = againN s.gs p (n : Int) := by rw [hys.1.length_eq, againL_len kv' s.gs p n hkv']
          repeat' (first
            | with_reducible (first | refine Rd.p ?_ | refine w_alt ?_ ?_ | refine zE ?_ | refine zE0 ?_)
            | (refine w_lenN (l := ys) (by exact hNa) ?_)
            | with_reducible (first | refine zI fun y hy => ?_ | refine zL ?_ | refine zS ?_ | refine zA fun _ => ?_ | refine zV ?_ | refine zC ?_ | refine zG ?_ | refine zU ?_ | refine zG0 ?_ | refine zU0 ?_ | refine zF ?_)
            | ((with_reducible refine acall_id ?_); (refine add_call kv' g7 (gAt s.gs p.length) n 1 (by omega) (by omega) (fun k => by rw [hkv' k]; have := metN_bd s.gs p k ok.g12; omega) rfl rfl ?_; intro kv1 hkv1; have hkvx : ∀ q, mget kv1 q = metN s.gs (p ++ [(n : Int)]) q := fun q => by rw [hkv1, hkv', metN_snoc _ _ _ _ (by omega)]))
            | ((with_reducible refine acall_id ?_); refine ACall.liftS hcl [] (some 2) rfl rfl rfl trivial (fun _ => rfl) ?_; rintro _ _ rfl)
            | ((with_reducible refine acall_id ?_); (refine grow2_call g0 g1 g2 g3 g4 g5 g6 g7 g8 _ _ _ b' (p ++ [(n : Int)]) kv1 _ (grow2_s s g0 g1 g2 g3 g4 g5 g6 g7 g8 ok k (p ++ [(n : Int)]) (.slc 1 (iR (p ++ [(n : Int)])) .non) (r + ys.length) b' kv1 (by omega) (.inr ⟨rfl, by simp⟩) hpx (by omega) (by omega) hkvx) rfl rfl rfl rfl rfl rfl rfl rfl rfl rfl ?_; rintro ⟨b2, kv2⟩ ⟨hb2, hkv2⟩; dsimp only at hb2 hkv2 ⊢))
            | ((with_reducible refine acall_id ?_); (refine add_call kv2 g7 (gAt s.gs p.length) n (-1) (by omega) (by omega) (fun k => by rw [hkv2 k]; have := metN_bd s.gs (p ++ [(n : Int)]) k ok.g12; omega) rfl rfl ?_; intro kv3 hkv3))
            | with_reducible (first | refine zX ?_ | refine zD fun _ => ?_ | refine zD0 ?_ | refine zN ?_ | refine zF0 ?_ | refine zX0 ?_ | refine z1 ?_ | refine z2 ?_ | refine z3 ?_ | refine z4 ?_ | refine z5 ?_ | refine z6 ?_ | refine z7 ?_ | refine z8 ?_ | refine y1 ?_ | refine y2 ?_ | refine y3 ?_ | refine y4 ?_ | refine y5 ?_ | refine y6 ?_ | refine y7 ?_ | refine y8 ?_ | refine Rt.p (fun _ => ?_) fun _ => ?_)
            | ((with_reducible apply w_ixM); (focus exact rfl); (focus exact rfl); case' hk => intro y hy) | ((with_reducible (first | apply w_val | apply q_ends)); (focus exact rfl)))
          rw [hl2, ← hfn] at hb2
          refine q_loop (n + 1, b2, kv3) ⟨hnT2, by rw [hfo, hb2], ?_⟩ ?_ (slots_cons (by show AV.int .i64 _ = AV.int .i64 _; refine int_eq ?_; simp) slots_nil) (by exact ⟨rfl, rfl, rfl, trivial⟩) (by repeat' (first | exact kept_nil | apply kept_cons | rfl)) (by repeat' (first | exact kept_nil | apply kept_cons | rfl))
          · intro q; show mget kv3 q = _
            rw [hkv3, hkv2, metN_snoc _ _ _ _ (by omega)]; split <;> omega
          · show T - (n + 1) < T - n; omega
end Go.Abs
