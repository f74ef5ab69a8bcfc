/- A part of the proofs of the laws of this seat: contracts of the functions that they reach, each proved of the program's form in Lean. No condition beyond those that each contract names. -/
import Derived.Test.YtmekfgjlcaonjaaE2
import Derived.Test.YtmekfgjlcaonjaaC14
import Derived.Test.YtmekfgjlcaonjaaC13
import Derived.Test.YtmekfgjlcaonjaaC12
import Derived.Test.YtmekfgjlcaonjaaC11
import Derived.Test.YtmekfgjlcaonjaaC10
import Derived.Test.YtmekfgjlcaonjaaC9
import Derived.Test.YtmekfgjlcaonjaaC8
import Derived.Test.YtmekfgjlcaonjaaC7
import Derived.Test.YtmekfgjlcaonjaaC5
import Derived.Test.YtmekfgjlcaonjaaC4
import Derived.Test.YtmekfgjlcaonjaaC2
import Derived.Test.YtmekfgjlcaonjaaC1
import Derived.Test.YtmekfgjlcaonjaaB
set_option linter.unusedVariables false
set_option linter.unusedSimpArgs false
set_option maxRecDepth 20000
set_option maxHeartbeats 4000000
namespace Go.Abs
open Go.Proofs
/-- The best plan, as the search keeps it. -/
def bV (b : List Int) : Option (Option Nat) → AV
  | none => .nsl
  | some none => .slc 1 (iR b) .non
  | some (some g) => .slc 1 (iR b) (.own 21 g)
def okB (b : List Int) (o : Option (Option Nat)) : Prop := o = none → b = []
abbrev seR (s : Sea) (b : List Int) (o : Option (Option Nat)) (m : Int) : List AV := [.slc 1 (iR s.ss) .non, .slc 1 (llR s.gs) .non, .int .i64 (combF s.ss), bV b o, .int .i64 m]
def rlB (p b : List Int) : List Int := if b.length < p.length then p else b
def rlongF (s : Sea) : Nat → List Int → List Int → List Int
  | 0, p, b => rlB p b
  | k + 1, p, b => foldI (fun st (n : Nat) => if st.length < s.gs.length then (if againN s.gs p (n : Int) = 0 then rlongF s k (p ++ [(n : Int)]) st else st) else st) (min (combF s.ss) (usedF p + 1)).toNat 0 (rlB p b)
theorem growF_pos (s : Sea) : ∀ (k : Nat) (p : List Int) (r : Int) (b : List Int), 0 < r → growF s (want1 s) k p r b = b
  | 0, p, r, b, h => by rw [growF, want1, if_pos h]
  | k + 1, p, r, b, h => by
    have e : want1 s b p r = (b, false) := by rw [want1, if_pos h]
    rw [growF, e]; rfl
theorem growF_full (s : Sea) (k : Nat) (p : List Int) (b : List Int) (hb : b.length = s.gs.length) (hp : p.length ≤ s.gs.length) : growF s (want1 s) k p 0 b = b := by
  have e : want1 s b p 0 = (b, false) := by rw [want1, if_neg (by decide), if_neg (by omega), decide_eq_false (by omega)]
  cases k with
  | zero => rw [growF, e]
  | succ k => rw [growF, e]; rfl
theorem foldI_inv {α : Type} {f g : α → Nat → α} {I : α → Prop} (h : ∀ st n, I st → f st n = g st n ∧ I (g st n)) : ∀ (m n : Nat) (st : α), I st → foldI f m n st = foldI g m n st ∧ I (foldI g m n st)
  | 0, _, _, h0 => ⟨rfl, h0⟩
  | m + 1, n, st, h0 => by
    have h1 := h st n h0
    have h2 := foldI_inv h m (n + 1) (g st n) h1.2
    rw [foldI, foldI, h1.1]
    exact h2
theorem foldI_const {α : Type} {f : α → Nat → α} {st : α} (h : ∀ n, f st n = st) : ∀ (m n : Nat), foldI f m n st = st
  | 0, _ => rfl
  | m + 1, n => by rw [foldI, h n, foldI_const h m (n + 1)]
theorem rlongF_eq (s : Sea) : ∀ (k : Nat) (p b : List Int), p.length + k = s.gs.length → b.length ≤ s.gs.length → growF s (want1 s) k p 0 b = rlongF s k p b ∧ (rlongF s k p b).length ≤ s.gs.length
  | 0, p, b, hk, hb => by
    have h1 : growF s (want1 s) 0 p 0 b = rlB p b := by
      rw [growF, want1, if_neg (by decide), rlB]; split <;> rfl
    refine ⟨h1, ?_⟩
    show (rlB p b).length ≤ _
    unfold rlB; split <;> omega
  | k + 1, p, b, hk, hb => by
    have hB : (rlB p b).length ≤ s.gs.length := by unfold rlB; split <;> omega
    have hag : ∀ n : Nat, 0 ≤ againN s.gs p n := fun n => by unfold againN; omega
    have key := foldI_inv (f := fun (st : List Int) (n : Nat) => growF s (want1 s) k (p ++ [(n : Int)]) (0 + againN s.gs p (n : Int)) st) (g := fun (st : List Int) (n : Nat) => if st.length < s.gs.length then (if againN s.gs p (n : Int) = 0 then rlongF s k (p ++ [(n : Int)]) st else st) else st)
      (I := fun st => st.length ≤ s.gs.length) (fun st n hst => by
        have hl : (p ++ [(n : Int)]).length = p.length + 1 := by simp
        have h0 := hag n
        try dsimp only at hst ⊢
        by_cases hz : againN s.gs p (n : Int) = 0
        · rw [if_pos hz, hz]
          by_cases hf : st.length < s.gs.length
          · rw [if_pos hf]
            have := rlongF_eq s k (p ++ [(n : Int)]) st (by omega) hst
            exact ⟨this.1, this.2⟩
          · rw [if_neg hf]
            exact ⟨growF_full s k _ st (by omega) (by omega), hst⟩
        · rw [growF_pos s k _ _ st (by omega), if_neg hz]
          constructor
          · split <;> rfl
          · split <;> exact hst) (min (combF s.ss) (usedF p + 1)).toNat 0 (rlB p b) hB
    refine ⟨?_, key.2⟩
    have e : want1 s b p 0 = (rlB p b, decide ((rlB p b).length < s.gs.length)) := by
      rw [want1, if_neg (by decide), rlB]; split <;> rfl
    rw [growF, e]
    try dsimp only
    by_cases hf : (rlB p b).length < s.gs.length
    · rw [if_pos (decide_eq_true hf)]; exact key.1
    · rw [if_neg (by simp; omega)]
      symm
      show foldI _ _ 0 (rlB p b) = _
      exact foldI_const (fun n => if_neg hf) _ _
/-- (*aloeswood/aloeswoodref09.search).longest -/
def ir94 : IFn :=
  ⟨84, [], (.seq (.seq (.ops [⟨(some 10), none, (.mov (.t 1))⟩,
    ⟨(some 11), none, (.len false (.t 10))⟩,
    ⟨(some 12), none, (.mov (.t 0))⟩,
    ⟨(some 13), none, (.nck (.t 12))⟩,
    ⟨(some 14), none, (.flA 3 (.t 13))⟩,
    ⟨(some 15), none, (.ld 1 false (.t 14))⟩,
    ⟨(some 16), none, (.len false (.t 15))⟩,
    ⟨(some 17), none, (.bin .gtr (.t 11) (.t 16))⟩])
  (.cnd (.t 17)
    (.ops [⟨(some 18), none, (.mov (.t 0))⟩,
      ⟨(some 19), none, (.bsl 1 [] [])⟩,
      ⟨(some 20), none, (.mov (.t 1))⟩,
      ⟨(some 21), none, (.app 1 8 (.t 19) (.t 20) 21)⟩,
      ⟨(some 22), none, (.nck (.t 18))⟩,
      ⟨(some 23), none, (.flA 3 (.t 22))⟩,
      ⟨none, none, (.st 1 (.t 23) (.t 21))⟩])
    .skip))
  (.seq (.seq (.ops [⟨(some 24), none, (.mov (.t 1))⟩,
    ⟨(some 25), none, (.len false (.t 24))⟩,
    ⟨(some 26), none, (.mov (.t 0))⟩,
    ⟨(some 27), none, (.nck (.t 26))⟩,
    ⟨(some 28), none, (.flA 0 (.t 27))⟩,
    ⟨(some 29), none, (.flA 1 (.t 28))⟩,
    ⟨(some 30), none, (.ld 1 false (.t 29))⟩,
    ⟨(some 31), none, (.len false (.t 30))⟩,
    ⟨(some 32), none, (.bin .eql (.t 25) (.t 31))⟩])
  (.cnd (.t 32)
    .ret
    .skip))
  (.seq (.ops [⟨(some 6), none, (.mov (.k (.int .i64 0)))⟩])
  (.blk 0 (.loop (.seq (.seq (.ops [⟨(some 33), none, (.mov (.t 6))⟩,
        ⟨(some 34), none, (.mov (.t 2))⟩,
        ⟨(some 35), none, (.mov (.t 0))⟩,
        ⟨(some 36), none, (.nck (.t 35))⟩,
        ⟨(some 37), none, (.flA 2 (.t 36))⟩,
        ⟨(some 38), none, (.ld 1 false (.t 37))⟩,
        ⟨(some 39), none, (.bin .sub (.t 38) (.k (.int .i64 1)))⟩,
        ⟨(some 40), none, (.mxi false (.t 34) (.t 39))⟩,
        ⟨(some 41), none, (.bin .leq (.t 33) (.t 40))⟩,
        ⟨(some 42), none, (.mov (.t 41))⟩,
        ⟨(some 43), (some (42, true)), (.mov (.t 0))⟩,
        ⟨(some 44), (some (42, true)), (.nck (.t 43))⟩,
        ⟨(some 45), (some (42, true)), (.flA 3 (.t 44))⟩,
        ⟨(some 46), (some (42, true)), (.ld 1 false (.t 45))⟩,
        ⟨(some 47), (some (42, true)), (.len false (.t 46))⟩,
        ⟨(some 48), (some (42, true)), (.mov (.t 0))⟩,
        ⟨(some 49), (some (42, true)), (.nck (.t 48))⟩,
        ⟨(some 50), (some (42, true)), (.flA 0 (.t 49))⟩,
        ⟨(some 51), (some (42, true)), (.flA 1 (.t 50))⟩,
        ⟨(some 52), (some (42, true)), (.ld 1 false (.t 51))⟩,
        ⟨(some 53), (some (42, true)), (.len false (.t 52))⟩,
        ⟨(some 54), (some (42, true)), (.bin .lss (.t 47) (.t 53))⟩,
        ⟨(some 55), none, (.pick (.t 42) (.t 54) (.k (.bool false)))⟩])
      (.cnd (.t 55)
        .skip
        (.exit 0)))
      (.seq (.blk 1 (.seq (.ops [⟨(some 58), none, (.bsl 1 [] [])⟩,
          ⟨(some 59), none, (.mov (.t 1))⟩,
          ⟨(some 60), none, (.app 1 8 (.t 58) (.t 59) 60)⟩,
          ⟨(some 61), none, (.mov (.t 6))⟩,
          ⟨(some 62), none, (.bsl 1 [[(.int .i64 0)]] [(0, (.t 61))])⟩,
          ⟨(some 63), none, (.app 1 8 (.t 60) (.t 62) 7)⟩,
          ⟨(some 7), none, (.mov (.t 63))⟩])
        (.seq (.ops [⟨(some 65), none, (.mov (.t 0))⟩,
          ⟨(some 66), none, (.nck (.t 65))⟩,
          ⟨(some 67), none, (.flA 0 (.t 66))⟩,
          ⟨(some 68), none, (.ld 2 true (.t 67))⟩,
          ⟨(some 69), none, (.mov (.t 7))⟩,
          ⟨(some 70), none, (.mov (.t 1))⟩,
          ⟨(some 71), none, (.len false (.t 70))⟩,
          ⟨(some 72), none, (.callF 106 [(.t 68), (.t 69), (.t 71)])⟩,
          ⟨(some 64), none, (.mov (.t 72))⟩,
          ⟨(some 73), none, (.ext 0 (.t 64))⟩,
          ⟨(some 74), none, (.ext 1 (.t 64))⟩,
          ⟨(some 8), none, (.mov (.t 73))⟩,
          ⟨(some 9), none, (.mov (.t 74))⟩])
        (.seq (.ops [⟨(some 75), none, (.mov (.t 8))⟩,
          ⟨(some 76), none, (.bin .eql (.t 75) (.k (.int .i64 0)))⟩])
        (.cnd (.t 76)
          (.ops [⟨(some 77), none, (.mov (.t 0))⟩,
            ⟨(some 78), none, (.mov (.t 7))⟩,
            ⟨(some 79), none, (.mov (.t 2))⟩,
            ⟨(some 80), none, (.mov (.t 6))⟩,
            ⟨(some 81), none, (.bin .add (.t 80) (.k (.int .i64 1)))⟩,
            ⟨(some 82), none, (.mxi true (.t 79) (.t 81))⟩,
            ⟨(some 83), none, (.callF 94 [(.t 77), (.t 78), (.t 82)])⟩])
          .skip)))))
      (.ops [⟨(some 56), none, (.mov (.t 6))⟩,
        ⟨(some 57), none, (.bin .add (.t 56) (.k (.int .i64 1)))⟩,
        ⟨(some 6), none, (.mov (.t 57))⟩]))))))))⟩
def hint94 (P : Program) : Hint := { site := [(63, 7)], nils := [], frz := [], mve := [], wr := [] }
theorem rlong_s (s : Sea) (g : Nat) (m : Int) (he : seaE s = 0) : ∀ (k : Nat) (p b : List Int) (o : Option Unit), p.length + k = s.gs.length → (∀ x ∈ p, 0 ≤ x ∧ x < combF s.ss) → (o = none → b = []) → b.length ≤ 9 →
    RawC Try.prog 94 [.ref 1000 g 0, .slc 1 (iR p) .non, .int .i64 (usedF p)] (sg [(1000, (g, .row (seR s b (o.map fun _ => none) m)))])
      (SR (fun (x : List Int × Option (Option Nat)) v => v = .tup [] ∧ x.1 = rlongF s k p b ∧ okB x.1 x.2 ∧ x.1.length ≤ 9) (fun x => [(1000, (g, .row (seR s x.1 x.2 m)))]))
  | 0, p, b, o, hk, hp, hob, hb => by
    have ok := okS_of he
    have h9 := ok.g9
    have hlr : (rlB p b).length ≤ 9 := by unfold rlB; split <;> omega
    rcases o with _ | u
    · obtain rfl := hob rfl
      have h00 : ([] : List Int).length = 0 := rfl
      by_cases hl : 0 < p.length
      · have hr : rlB p [] = p := by rw [rlB, if_pos (show ([] : List Int).length < p.length from hl)]
        refine RawC.walk (H := hint94 Try.prog) ir94 Try.func94 rfl rfl rfl ?_
        unfold ir94
        repeat' (first
          | with_reducible (first | refine Rd.p ?_ | refine w_alt ?_ ?_ | refine zE ?_ | refine zE0 ?_)
          | with_reducible (first | refine zI fun y hy => ?_ | refine zL ?_ | refine zS ?_ | refine zA fun _ => ?_ | refine zV ?_ | refine zC ?_ | refine zG ?_ | refine zU ?_ | refine zG0 ?_ | refine zU0 ?_ | refine zF ?_)
          | with_reducible (first | refine zX ?_ | refine zD fun _ => ?_ | refine zD0 ?_ | refine zN ?_ | refine zF0 ?_ | refine zX0 ?_ | refine z1 ?_ | refine z2 ?_ | refine z3 ?_ | refine z4 ?_ | refine z5 ?_ | refine z6 ?_ | refine z7 ?_ | refine z8 ?_ | refine y1 ?_ | refine y2 ?_ | refine y3 ?_ | refine y4 ?_ | refine y5 ?_ | refine y6 ?_ | refine y7 ?_ | refine y8 ?_ | refine Rt.p (fun _ => ?_) fun _ => ?_)
          | ((with_reducible apply w_ixM); (focus exact rfl); (focus exact rfl); case' hk => intro y hy) | ((with_reducible (first | apply w_val | apply q_ends)); (focus exact rfl)))
        exact ⟨(p, some (some _)), ⟨rfl, by show p = rlB p []; rw [hr], (fun h => by cases h), by first | omega | (dsimp only; omega)⟩, rfl, trivial⟩
      · have hr : rlB p [] = [] := by rw [rlB, if_neg (show ¬ ([] : List Int).length < p.length from hl)]
        refine RawC.walk (H := hint94 Try.prog) ir94 Try.func94 rfl rfl rfl ?_
        unfold ir94
        repeat' (first
          | with_reducible (first | refine Rd.p ?_ | refine w_alt ?_ ?_ | refine zE ?_ | refine zE0 ?_)
          | with_reducible (first | refine zI fun y hy => ?_ | refine zL ?_ | refine zS ?_ | refine zA fun _ => ?_ | refine zV ?_ | refine zC ?_ | refine zG ?_ | refine zU ?_ | refine zG0 ?_ | refine zU0 ?_ | refine zF ?_)
          | with_reducible (first | refine zX ?_ | refine zD fun _ => ?_ | refine zD0 ?_ | refine zN ?_ | refine zF0 ?_ | refine zX0 ?_ | refine z1 ?_ | refine z2 ?_ | refine z3 ?_ | refine z4 ?_ | refine z5 ?_ | refine z6 ?_ | refine z7 ?_ | refine z8 ?_ | refine y1 ?_ | refine y2 ?_ | refine y3 ?_ | refine y4 ?_ | refine y5 ?_ | refine y6 ?_ | refine y7 ?_ | refine y8 ?_ | refine Rt.p (fun _ => ?_) fun _ => ?_)
          | ((with_reducible apply w_ixM); (focus exact rfl); (focus exact rfl); case' hk => intro y hy) | ((with_reducible (first | apply w_val | apply q_ends)); (focus exact rfl)))
        exact ⟨([], none), ⟨rfl, by show [] = rlB p []; rw [hr], fun _ => rfl, by simp⟩, rfl, trivial⟩
    · by_cases hl : b.length < p.length
      · have hr : rlB p b = p := by rw [rlB, if_pos hl]
        refine RawC.walk (H := hint94 Try.prog) ir94 Try.func94 rfl rfl rfl ?_
        unfold ir94
        repeat' (first
          | with_reducible (first | refine Rd.p ?_ | refine w_alt ?_ ?_ | refine zE ?_ | refine zE0 ?_)
          | with_reducible (first | refine zI fun y hy => ?_ | refine zL ?_ | refine zS ?_ | refine zA fun _ => ?_ | refine zV ?_ | refine zC ?_ | refine zG ?_ | refine zU ?_ | refine zG0 ?_ | refine zU0 ?_ | refine zF ?_)
          | with_reducible (first | refine zX ?_ | refine zD fun _ => ?_ | refine zD0 ?_ | refine zN ?_ | refine zF0 ?_ | refine zX0 ?_ | refine z1 ?_ | refine z2 ?_ | refine z3 ?_ | refine z4 ?_ | refine z5 ?_ | refine z6 ?_ | refine z7 ?_ | refine z8 ?_ | refine y1 ?_ | refine y2 ?_ | refine y3 ?_ | refine y4 ?_ | refine y5 ?_ | refine y6 ?_ | refine y7 ?_ | refine y8 ?_ | refine Rt.p (fun _ => ?_) fun _ => ?_)
          | ((with_reducible apply w_ixM); (focus exact rfl); (focus exact rfl); case' hk => intro y hy) | ((with_reducible (first | apply w_val | apply q_ends)); (focus exact rfl)))
        exact ⟨(p, some (some _)), ⟨rfl, by show p = rlB p b; rw [hr], (fun h => by cases h), by first | omega | (dsimp only; omega)⟩, rfl, trivial⟩
      · have hr : rlB p b = b := by rw [rlB, if_neg hl]
        refine RawC.walk (H := hint94 Try.prog) ir94 Try.func94 rfl rfl rfl ?_
        unfold ir94
        repeat' (first
          | with_reducible (first | refine Rd.p ?_ | refine w_alt ?_ ?_ | refine zE ?_ | refine zE0 ?_)
          | with_reducible (first | refine zI fun y hy => ?_ | refine zL ?_ | refine zS ?_ | refine zA fun _ => ?_ | refine zV ?_ | refine zC ?_ | refine zG ?_ | refine zU ?_ | refine zG0 ?_ | refine zU0 ?_ | refine zF ?_)
          | with_reducible (first | refine zX ?_ | refine zD fun _ => ?_ | refine zD0 ?_ | refine zN ?_ | refine zF0 ?_ | refine zX0 ?_ | refine z1 ?_ | refine z2 ?_ | refine z3 ?_ | refine z4 ?_ | refine z5 ?_ | refine z6 ?_ | refine z7 ?_ | refine z8 ?_ | refine y1 ?_ | refine y2 ?_ | refine y3 ?_ | refine y4 ?_ | refine y5 ?_ | refine y6 ?_ | refine y7 ?_ | refine y8 ?_ | refine Rt.p (fun _ => ?_) fun _ => ?_)
          | ((with_reducible apply w_ixM); (focus exact rfl); (focus exact rfl); case' hk => intro y hy) | ((with_reducible (first | apply w_val | apply q_ends)); (focus exact rfl)))
        exact ⟨(b, some none), ⟨rfl, by show b = rlB p b; rw [hr], (fun h => by cases h), hb⟩, rfl, trivial⟩
  | k + 1, p, b, o, hk, hp, hob, hb => by
    have ok := okS_of he
    have h9 := ok.g9
    have h4 := ok.s4
    have hcb := combF_bd s.ss.length s.ss rfl ok.s6
    have hcb2 : combF s.ss ≤ 1296 := by
      have : (6 : Int) ^ s.ss.length ≤ 1296 := by
        rcases (by omega : s.ss.length = 0 ∨ s.ss.length = 1 ∨ s.ss.length = 2 ∨ s.ss.length = 3 ∨ s.ss.length = 4) with h | h | h | h | h
        all_goals (rw [h]; decide)
      omega
    have hub := usedF_bd p hp (by omega)
    have hlr : (rlB p b).length ≤ 9 := by unfold rlB; split <;> omega
    obtain ⟨f, hf⟩ : ∃ f : List Int → Nat → List Int, f = fun st (n : Nat) => if st.length < s.gs.length then (if againN s.gs p (n : Int) = 0 then rlongF s k (p ++ [(n : Int)]) st else st) else st := ⟨_, rfl⟩
    obtain ⟨T, hT⟩ : ∃ T : Nat, T = (min (combF s.ss) (usedF p + 1)).toNat := ⟨_, rfl⟩
    have hrl : rlongF s (k + 1) p b = foldI f T 0 (rlB p b) := by rw [rlongF, hf, hT]
    rw [hrl]
    obtain ⟨FV, hFV⟩ : ∃ FV, FV = foldI f T 0 (rlB p b) := ⟨_, rfl⟩
    rw [← hFV]
    have hfull : ∀ st : List Int, ¬ st.length < s.gs.length → ∀ m n, foldI f m n st = st := fun st h m n => foldI_const (fun n => by rw [hf]; exact if_neg h) m n
    have hnn := fun (l : List Int) (hl : l ∈ s.gs) => (gathsE_nn (gathsE_of9 he) l hl)
    have hg3 : ∀ l ∈ s.gs, l.length < 1000 := fun l hl => by have := ok.g12 l hl; omega
    have hrep := fun n : Int => repeated_s s p [] n (by omega) (by simp; omega) hg3 hnn
    have h00 : ([] : List Int).length = 0 := rfl
    have hpn : ∀ n : Nat, (p ++ [(n : Int)]).length = p.length + 1 := fun n => by simp
    rcases o with _ | u
    case' none =>
      obtain rfl := hob rfl
      by_cases hl : 0 < p.length
      case' pos => have hr : rlB p [] = p := by rw [rlB, if_pos (show ([] : List Int).length < p.length from hl)]
      case' neg => have hr : rlB p [] = [] := by rw [rlB, if_neg (show ¬ ([] : List Int).length < p.length from hl)]
    case' some =>
      by_cases hl : b.length < p.length
      case' pos => have hr : rlB p b = p := by rw [rlB, if_pos hl]
      case' neg => have hr : rlB p b = b := by rw [rlB, if_neg hl]
    all_goals
      rw [hr] at hlr hFV
      refine RawC.walk (H := hint94 Try.prog) ir94 Try.func94 rfl rfl rfl ?_
      unfold ir94
      repeat' (first
        | with_reducible (first | refine Rd.p ?_ | refine w_alt ?_ ?_ | refine zE ?_ | refine zE0 ?_)
        | with_reducible (first | refine zI fun y hy => ?_ | refine zL ?_ | refine zS ?_ | refine zA fun _ => ?_ | refine zV ?_ | refine zC ?_ | refine zG ?_ | refine zU ?_ | refine zG0 ?_ | refine zU0 ?_ | refine zF ?_)
        | with_reducible (first | refine zX ?_ | refine zD fun _ => ?_ | refine zD0 ?_ | refine zN ?_ | refine zF0 ?_ | refine zX0 ?_ | refine z1 ?_ | refine z2 ?_ | refine z3 ?_ | refine z4 ?_ | refine z5 ?_ | refine z6 ?_ | refine z7 ?_ | refine z8 ?_ | refine y1 ?_ | refine y2 ?_ | refine y3 ?_ | refine y4 ?_ | refine y5 ?_ | refine y6 ?_ | refine y7 ?_ | refine y8 ?_ | refine Rt.p (fun _ => ?_) fun _ => ?_)
        | ((with_reducible apply w_ixM); (focus exact rfl); (focus exact rfl); case' hk => intro y hy) | ((with_reducible (first | apply w_val | apply q_ends)); (focus exact rfl)))
      first
        | refine w_loopK [0, 1, 2] [] (fun x : Nat × List Int × Option (Option Nat) => x.1 ≤ T ∧ FV = foldI f (T - x.1) x.1 x.2.1 ∧ okB x.2.1 x.2.2 ∧ x.2.1.length ≤ 9) (fun x => T - x.1) (fun x => [(6, .int .i64 x.1)]) (fun x => [(1000, (g, .row (seR s x.2.1 x.2.2 m)))]) (0, p, some (some _)) ⟨Nat.zero_le _, hFV, (fun h => by cases h), hlr⟩ ⟨rfl, trivial⟩ (by exact ⟨rfl, trivial⟩) ?_
        | refine w_loopK [0, 1, 2] [] (fun x : Nat × List Int × Option (Option Nat) => x.1 ≤ T ∧ FV = foldI f (T - x.1) x.1 x.2.1 ∧ okB x.2.1 x.2.2 ∧ x.2.1.length ≤ 9) (fun x => T - x.1) (fun x => [(6, .int .i64 x.1)]) (fun x => [(1000, (g, .row (seR s x.2.1 x.2.2 m)))]) (0, [], none) ⟨Nat.zero_le _, hFV, (fun _ => rfl), hlr⟩ ⟨rfl, trivial⟩ (by exact ⟨rfl, trivial⟩) ?_
        | refine w_loopK [0, 1, 2] [] (fun x : Nat × List Int × Option (Option Nat) => x.1 ≤ T ∧ FV = foldI f (T - x.1) x.1 x.2.1 ∧ okB x.2.1 x.2.2 ∧ x.2.1.length ≤ 9) (fun x => T - x.1) (fun x => [(6, .int .i64 x.1)]) (fun x => [(1000, (g, .row (seR s x.2.1 x.2.2 m)))]) (0, b, some none) ⟨Nat.zero_le _, hFV, (fun h => by cases h), hlr⟩ ⟨rfl, trivial⟩ (by exact ⟨rfl, trivial⟩) ?_
      rintro ⟨n, b', o'⟩ ⟨hn, hfo, hob', hb9⟩ e σ
      dsimp only at hn hfo hob' hb9 ⊢
      by_cases hnT : n = T
      · rw [hnT, Nat.sub_self, foldI] at hfo
        repeat' (first
          | with_reducible (first | refine Rd.p ?_ | refine w_alt ?_ ?_ | refine zE ?_ | refine zE0 ?_)
          | with_reducible (first | refine zI fun y hy => ?_ | refine zL ?_ | refine zS ?_ | refine zA fun _ => ?_ | refine zV ?_ | refine zC ?_ | refine zG ?_ | refine zU ?_ | refine zG0 ?_ | refine zU0 ?_ | refine zF ?_)
          | with_reducible (first | refine zX ?_ | refine zD fun _ => ?_ | refine zD0 ?_ | refine zN ?_ | refine zF0 ?_ | refine zX0 ?_ | refine z1 ?_ | refine z2 ?_ | refine z3 ?_ | refine z4 ?_ | refine z5 ?_ | refine z6 ?_ | refine z7 ?_ | refine z8 ?_ | refine y1 ?_ | refine y2 ?_ | refine y3 ?_ | refine y4 ?_ | refine y5 ?_ | refine y6 ?_ | refine y7 ?_ | refine y8 ?_ | refine Rt.p (fun _ => ?_) fun _ => ?_)
          | ((with_reducible apply w_ixM); (focus exact rfl); (focus exact rfl); case' hk => intro y hy) | ((with_reducible (first | apply w_val | apply q_ends)); (focus exact rfl)))
        exact ⟨(b', o'), ⟨rfl, hfo.symm, hob', hb9⟩, rfl, trivial⟩
      have hnT2 : n < T := by omega
      by_cases hfl : b'.length < s.gs.length
      case neg =>
        have hfv : FV = b' := by rw [hfo, hfull _ hfl]
        rcases o' with _ | _ | g'
        · obtain rfl := hob' rfl
          exact absurd (show ([] : List Int).length < s.gs.length by rw [List.length_nil]; omega) hfl
        · repeat' (first
            | with_reducible (first | refine Rd.p ?_ | refine w_alt ?_ ?_ | refine zE ?_ | refine zE0 ?_)
            | with_reducible (first | refine zI fun y hy => ?_ | refine zL ?_ | refine zS ?_ | refine zA fun _ => ?_ | refine zV ?_ | refine zC ?_ | refine zG ?_ | refine zU ?_ | refine zG0 ?_ | refine zU0 ?_ | refine zF ?_)
            | with_reducible (first | refine zX ?_ | refine zD fun _ => ?_ | refine zD0 ?_ | refine zN ?_ | refine zF0 ?_ | refine zX0 ?_ | refine z1 ?_ | refine z2 ?_ | refine z3 ?_ | refine z4 ?_ | refine z5 ?_ | refine z6 ?_ | refine z7 ?_ | refine z8 ?_ | refine y1 ?_ | refine y2 ?_ | refine y3 ?_ | refine y4 ?_ | refine y5 ?_ | refine y6 ?_ | refine y7 ?_ | refine y8 ?_ | refine Rt.p (fun _ => ?_) fun _ => ?_)
            | ((with_reducible apply w_ixM); (focus exact rfl); (focus exact rfl); case' hk => intro y hy) | ((with_reducible (first | apply w_val | apply q_ends)); (focus exact rfl)))
          exact ⟨(b', some none), ⟨rfl, hfv.symm, hob', hb9⟩, rfl, trivial⟩
        · repeat' (first
            | with_reducible (first | refine Rd.p ?_ | refine w_alt ?_ ?_ | refine zE ?_ | refine zE0 ?_)
            | with_reducible (first | refine zI fun y hy => ?_ | refine zL ?_ | refine zS ?_ | refine zA fun _ => ?_ | refine zV ?_ | refine zC ?_ | refine zG ?_ | refine zU ?_ | refine zG0 ?_ | refine zU0 ?_ | refine zF ?_)
            | with_reducible (first | refine zX ?_ | refine zD fun _ => ?_ | refine zD0 ?_ | refine zN ?_ | refine zF0 ?_ | refine zX0 ?_ | refine z1 ?_ | refine z2 ?_ | refine z3 ?_ | refine z4 ?_ | refine z5 ?_ | refine z6 ?_ | refine z7 ?_ | refine z8 ?_ | refine y1 ?_ | refine y2 ?_ | refine y3 ?_ | refine y4 ?_ | refine y5 ?_ | refine y6 ?_ | refine y7 ?_ | refine y8 ?_ | refine Rt.p (fun _ => ?_) fun _ => ?_)
            | ((with_reducible apply w_ixM); (focus exact rfl); (focus exact rfl); case' hk => intro y hy) | ((with_reducible (first | apply w_val | apply q_ends)); (focus exact rfl)))
          exact ⟨(b', some (some g')), ⟨rfl, hfv.symm, hob', hb9⟩, rfl, trivial⟩
      rw [show T - n = (T - (n + 1)) + 1 by omega, foldI] at hfo
      have hfn : f b' n = if againN s.gs p (n : Int) = 0 then rlongF s k (p ++ [(n : Int)]) b' else b' := by rw [hf]; exact if_pos hfl
      rw [hfn] at hfo
      have hre := hrep n
      have hrln := repL_len s p n
      have hbd := repL_bd ok (p := p) (by omega) n
      have hpx : ∀ x ∈ p ++ [(n : Int)], 0 ≤ x ∧ x < combF s.ss := by
        intro x hx
        rcases List.mem_append.1 hx with h | h
        · exact hp x h
        · have : x = (n : Int) := by simpa using h
          omega
      have hpn1 := hpn n
      have hIH := fun o'' ho'' => rlong_s s g m he k (p ++ [(n : Int)]) b' o'' (by omega) hpx ho'' hb9
      simp only [usedF_snoc] at hIH
      by_cases hz : againN s.gs p (n : Int) = 0
      · rw [if_pos hz] at hfo
        have hz0 : (repL s p n).length = 0 := by omega
        rcases o' with _ | _ | g'
        · obtain rfl := hob' rfl
          have hI := hIH none (fun _ => rfl)
          repeat' (first
            | with_reducible (first | refine Rd.p ?_ | refine w_alt ?_ ?_ | refine zE ?_ | refine zE0 ?_)
            | with_reducible (first | refine zI fun y hy => ?_ | refine zL ?_ | refine zS ?_ | refine zA fun _ => ?_ | refine zV ?_ | refine zC ?_ | refine zG ?_ | refine zU ?_ | refine zG0 ?_ | refine zU0 ?_ | refine zF ?_)
            | ((with_reducible refine acall_id ?_); refine ACall.val hre rfl rfl ?_)
            | ((with_reducible refine acall_id ?_); refine ACall.liftS hI [(1000, 1000)] none rfl rfl rfl ⟨⟨_, rfl⟩, trivial⟩ (fun _ => rfl) ?_; rintro ⟨b2, o2⟩ _ ⟨rfl, hb2, hob2, hb29⟩)
            | with_reducible (first | refine zX ?_ | refine zD fun _ => ?_ | refine zD0 ?_ | refine zN ?_ | refine zF0 ?_ | refine zX0 ?_ | refine z1 ?_ | refine z2 ?_ | refine z3 ?_ | refine z4 ?_ | refine z5 ?_ | refine z6 ?_ | refine z7 ?_ | refine z8 ?_ | refine y1 ?_ | refine y2 ?_ | refine y3 ?_ | refine y4 ?_ | refine y5 ?_ | refine y6 ?_ | refine y7 ?_ | refine y8 ?_ | refine Rt.p (fun _ => ?_) fun _ => ?_)
            | ((with_reducible apply w_ixM); (focus exact rfl); (focus exact rfl); case' hk => intro y hy) | ((with_reducible (first | apply w_val | apply q_ends)); (focus exact rfl)))
          rw [← hb2] at hfo
          rcases o2 with _ | _ | g2
          · exact q_loop (n + 1, b2, none) ⟨hnT2, hfo, hob2, hb29⟩ (by show T - (n + 1) < T - n; omega) (slots_cons (by show AV.int .i64 _ = AV.int .i64 _; refine int_eq ?_; simp) slots_nil) (by exact ⟨rfl, trivial⟩) (by repeat' (first | exact kept_nil | apply kept_cons | rfl)) (by repeat' (first | exact kept_nil | apply kept_cons | rfl))
          · exact q_loop (n + 1, b2, some none) ⟨hnT2, hfo, (fun h => by cases h), hb29⟩ (by show T - (n + 1) < T - n; omega) (slots_cons (by show AV.int .i64 _ = AV.int .i64 _; refine int_eq ?_; simp) slots_nil) (by exact ⟨rfl, trivial⟩) (by repeat' (first | exact kept_nil | apply kept_cons | rfl)) (by repeat' (first | exact kept_nil | apply kept_cons | rfl))
          · exact q_loop (n + 1, b2, some none) ⟨hnT2, hfo, (fun h => by cases h), hb29⟩ (by show T - (n + 1) < T - n; omega) (slots_cons (by show AV.int .i64 _ = AV.int .i64 _; refine int_eq ?_; simp) slots_nil) (by exact ⟨rfl, trivial⟩) (by repeat' (first | exact kept_nil | apply kept_cons | rfl)) (by repeat' (first | exact kept_nil | apply kept_cons | rfl))
        · have hI := hIH (some ()) (fun h => by cases h)
          repeat' (first
            | with_reducible (first | refine Rd.p ?_ | refine w_alt ?_ ?_ | refine zE ?_ | refine zE0 ?_)
            | with_reducible (first | refine zI fun y hy => ?_ | refine zL ?_ | refine zS ?_ | refine zA fun _ => ?_ | refine zV ?_ | refine zC ?_ | refine zG ?_ | refine zU ?_ | refine zG0 ?_ | refine zU0 ?_ | refine zF ?_)
            | ((with_reducible refine acall_id ?_); refine ACall.val hre rfl rfl ?_)
            | ((with_reducible refine acall_id ?_); refine ACall.liftS hI [(1000, 1000)] none rfl rfl rfl ⟨⟨_, rfl⟩, trivial⟩ (fun _ => rfl) ?_; rintro ⟨b2, o2⟩ _ ⟨rfl, hb2, hob2, hb29⟩)
            | with_reducible (first | refine zX ?_ | refine zD fun _ => ?_ | refine zD0 ?_ | refine zN ?_ | refine zF0 ?_ | refine zX0 ?_ | refine z1 ?_ | refine z2 ?_ | refine z3 ?_ | refine z4 ?_ | refine z5 ?_ | refine z6 ?_ | refine z7 ?_ | refine z8 ?_ | refine y1 ?_ | refine y2 ?_ | refine y3 ?_ | refine y4 ?_ | refine y5 ?_ | refine y6 ?_ | refine y7 ?_ | refine y8 ?_ | refine Rt.p (fun _ => ?_) fun _ => ?_)
            | ((with_reducible apply w_ixM); (focus exact rfl); (focus exact rfl); case' hk => intro y hy) | ((with_reducible (first | apply w_val | apply q_ends)); (focus exact rfl)))
          rw [← hb2] at hfo
          rcases o2 with _ | _ | g2
          · exact q_loop (n + 1, b2, none) ⟨hnT2, hfo, hob2, hb29⟩ (by show T - (n + 1) < T - n; omega) (slots_cons (by show AV.int .i64 _ = AV.int .i64 _; refine int_eq ?_; simp) slots_nil) (by exact ⟨rfl, trivial⟩) (by repeat' (first | exact kept_nil | apply kept_cons | rfl)) (by repeat' (first | exact kept_nil | apply kept_cons | rfl))
          · exact q_loop (n + 1, b2, some none) ⟨hnT2, hfo, (fun h => by cases h), hb29⟩ (by show T - (n + 1) < T - n; omega) (slots_cons (by show AV.int .i64 _ = AV.int .i64 _; refine int_eq ?_; simp) slots_nil) (by exact ⟨rfl, trivial⟩) (by repeat' (first | exact kept_nil | apply kept_cons | rfl)) (by repeat' (first | exact kept_nil | apply kept_cons | rfl))
          · exact q_loop (n + 1, b2, some none) ⟨hnT2, hfo, (fun h => by cases h), hb29⟩ (by show T - (n + 1) < T - n; omega) (slots_cons (by show AV.int .i64 _ = AV.int .i64 _; refine int_eq ?_; simp) slots_nil) (by exact ⟨rfl, trivial⟩) (by repeat' (first | exact kept_nil | apply kept_cons | rfl)) (by repeat' (first | exact kept_nil | apply kept_cons | rfl))
        · have hI := hIH (some ()) (fun h => by cases h)
          repeat' (first
            | with_reducible (first | refine Rd.p ?_ | refine w_alt ?_ ?_ | refine zE ?_ | refine zE0 ?_)
            | with_reducible (first | refine zI fun y hy => ?_ | refine zL ?_ | refine zS ?_ | refine zA fun _ => ?_ | refine zV ?_ | refine zC ?_ | refine zG ?_ | refine zU ?_ | refine zG0 ?_ | refine zU0 ?_ | refine zF ?_)
            | ((with_reducible refine acall_id ?_); refine ACall.val hre rfl rfl ?_)
            | ((with_reducible refine acall_id ?_); refine ACall.liftS hI [(1000, 1000)] none rfl rfl rfl ⟨⟨_, rfl⟩, trivial⟩ (fun _ => rfl) ?_; rintro ⟨b2, o2⟩ _ ⟨rfl, hb2, hob2, hb29⟩)
            | with_reducible (first | refine zX ?_ | refine zD fun _ => ?_ | refine zD0 ?_ | refine zN ?_ | refine zF0 ?_ | refine zX0 ?_ | refine z1 ?_ | refine z2 ?_ | refine z3 ?_ | refine z4 ?_ | refine z5 ?_ | refine z6 ?_ | refine z7 ?_ | refine z8 ?_ | refine y1 ?_ | refine y2 ?_ | refine y3 ?_ | refine y4 ?_ | refine y5 ?_ | refine y6 ?_ | refine y7 ?_ | refine y8 ?_ | refine Rt.p (fun _ => ?_) fun _ => ?_)
            | ((with_reducible apply w_ixM); (focus exact rfl); (focus exact rfl); case' hk => intro y hy) | ((with_reducible (first | apply w_val | apply q_ends)); (focus exact rfl)))
          rw [← hb2] at hfo
          rcases o2 with _ | _ | g2
          · exact q_loop (n + 1, b2, none) ⟨hnT2, hfo, hob2, hb29⟩ (by show T - (n + 1) < T - n; omega) (slots_cons (by show AV.int .i64 _ = AV.int .i64 _; refine int_eq ?_; simp) slots_nil) (by exact ⟨rfl, trivial⟩) (by repeat' (first | exact kept_nil | apply kept_cons | rfl)) (by repeat' (first | exact kept_nil | apply kept_cons | rfl))
          · exact q_loop (n + 1, b2, some none) ⟨hnT2, hfo, (fun h => by cases h), hb29⟩ (by show T - (n + 1) < T - n; omega) (slots_cons (by show AV.int .i64 _ = AV.int .i64 _; refine int_eq ?_; simp) slots_nil) (by exact ⟨rfl, trivial⟩) (by repeat' (first | exact kept_nil | apply kept_cons | rfl)) (by repeat' (first | exact kept_nil | apply kept_cons | rfl))
          · exact q_loop (n + 1, b2, some none) ⟨hnT2, hfo, (fun h => by cases h), hb29⟩ (by show T - (n + 1) < T - n; omega) (slots_cons (by show AV.int .i64 _ = AV.int .i64 _; refine int_eq ?_; simp) slots_nil) (by exact ⟨rfl, trivial⟩) (by repeat' (first | exact kept_nil | apply kept_cons | rfl)) (by repeat' (first | exact kept_nil | apply kept_cons | rfl))
      · rw [if_neg hz] at hfo
        have hz0 : ¬ ((repL s p n).length : Int) = 0 := by omega
        rcases o' with _ | _ | g'
        · obtain rfl := hob' rfl
          repeat' (first
            | with_reducible (first | refine Rd.p ?_ | refine w_alt ?_ ?_ | refine zE ?_ | refine zE0 ?_)
            | with_reducible (first | refine zI fun y hy => ?_ | refine zL ?_ | refine zS ?_ | refine zA fun _ => ?_ | refine zV ?_ | refine zC ?_ | refine zG ?_ | refine zU ?_ | refine zG0 ?_ | refine zU0 ?_ | refine zF ?_)
            | ((with_reducible refine acall_id ?_); refine ACall.val hre rfl rfl ?_)
            | with_reducible (first | refine zX ?_ | refine zD fun _ => ?_ | refine zD0 ?_ | refine zN ?_ | refine zF0 ?_ | refine zX0 ?_ | refine z1 ?_ | refine z2 ?_ | refine z3 ?_ | refine z4 ?_ | refine z5 ?_ | refine z6 ?_ | refine z7 ?_ | refine z8 ?_ | refine y1 ?_ | refine y2 ?_ | refine y3 ?_ | refine y4 ?_ | refine y5 ?_ | refine y6 ?_ | refine y7 ?_ | refine y8 ?_ | refine Rt.p (fun _ => ?_) fun _ => ?_)
            | ((with_reducible apply w_ixM); (focus exact rfl); (focus exact rfl); case' hk => intro y hy) | ((with_reducible (first | apply w_val | apply q_ends)); (focus exact rfl)))
          exact q_loop (n + 1, [], none) ⟨hnT2, hfo, hob', hb9⟩ (by show T - (n + 1) < T - n; omega) (slots_cons (by show AV.int .i64 _ = AV.int .i64 _; refine int_eq ?_; simp) slots_nil) (by exact ⟨rfl, trivial⟩) (by repeat' (first | exact kept_nil | apply kept_cons | rfl)) (by repeat' (first | exact kept_nil | apply kept_cons | rfl))
        · repeat' (first
            | with_reducible (first | refine Rd.p ?_ | refine w_alt ?_ ?_ | refine zE ?_ | refine zE0 ?_)
            | with_reducible (first | refine zI fun y hy => ?_ | refine zL ?_ | refine zS ?_ | refine zA fun _ => ?_ | refine zV ?_ | refine zC ?_ | refine zG ?_ | refine zU ?_ | refine zG0 ?_ | refine zU0 ?_ | refine zF ?_)
            | ((with_reducible refine acall_id ?_); refine ACall.val hre rfl rfl ?_)
            | with_reducible (first | refine zX ?_ | refine zD fun _ => ?_ | refine zD0 ?_ | refine zN ?_ | refine zF0 ?_ | refine zX0 ?_ | refine z1 ?_ | refine z2 ?_ | refine z3 ?_ | refine z4 ?_ | refine z5 ?_ | refine z6 ?_ | refine z7 ?_ | refine z8 ?_ | refine y1 ?_ | refine y2 ?_ | refine y3 ?_ | refine y4 ?_ | refine y5 ?_ | refine y6 ?_ | refine y7 ?_ | refine y8 ?_ | refine Rt.p (fun _ => ?_) fun _ => ?_)
            | ((with_reducible apply w_ixM); (focus exact rfl); (focus exact rfl); case' hk => intro y hy) | ((with_reducible (first | apply w_val | apply q_ends)); (focus exact rfl)))
          exact q_loop (n + 1, b', some none) ⟨hnT2, hfo, hob', hb9⟩ (by show T - (n + 1) < T - n; omega) (slots_cons (by show AV.int .i64 _ = AV.int .i64 _; refine int_eq ?_; simp) slots_nil) (by exact ⟨rfl, trivial⟩) (by repeat' (first | exact kept_nil | apply kept_cons | rfl)) (by repeat' (first | exact kept_nil | apply kept_cons | rfl))
        · repeat' (first
            | with_reducible (first | refine Rd.p ?_ | refine w_alt ?_ ?_ | refine zE ?_ | refine zE0 ?_)
            | with_reducible (first | refine zI fun y hy => ?_ | refine zL ?_ | refine zS ?_ | refine zA fun _ => ?_ | refine zV ?_ | refine zC ?_ | refine zG ?_ | refine zU ?_ | refine zG0 ?_ | refine zU0 ?_ | refine zF ?_)
            | ((with_reducible refine acall_id ?_); refine ACall.val hre rfl rfl ?_)
            | with_reducible (first | refine zX ?_ | refine zD fun _ => ?_ | refine zD0 ?_ | refine zN ?_ | refine zF0 ?_ | refine zX0 ?_ | refine z1 ?_ | refine z2 ?_ | refine z3 ?_ | refine z4 ?_ | refine z5 ?_ | refine z6 ?_ | refine z7 ?_ | refine z8 ?_ | refine y1 ?_ | refine y2 ?_ | refine y3 ?_ | refine y4 ?_ | refine y5 ?_ | refine y6 ?_ | refine y7 ?_ | refine y8 ?_ | refine Rt.p (fun _ => ?_) fun _ => ?_)
            | ((with_reducible apply w_ixM); (focus exact rfl); (focus exact rfl); case' hk => intro y hy) | ((with_reducible (first | apply w_val | apply q_ends)); (focus exact rfl)))
          exact q_loop (n + 1, b', some (some g')) ⟨hnT2, hfo, hob', hb9⟩ (by show T - (n + 1) < T - n; omega) (slots_cons (by show AV.int .i64 _ = AV.int .i64 _; refine int_eq ?_; simp) slots_nil) (by exact ⟨rfl, trivial⟩) (by repeat' (first | exact kept_nil | apply kept_cons | rfl)) (by repeat' (first | exact kept_nil | apply kept_cons | rfl))
end Go.Abs
