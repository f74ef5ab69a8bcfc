/- A part of the proofs of the laws of this seat: contracts of the functions that they reach, each proved of the program's form in Lean. No condition beyond those that each contract names. -/
import Derived.Test.YtajbhojompefoaaB9
import Derived.Test.YtajbhojompefoaaB0
import Derived.Test.YtajbhojompefoaaB10
import Derived.Test.YtajbhojompefoaaB4
import Derived.Test.YtajbhojompefoaaB8
set_option linter.unusedVariables false
set_option linter.unusedSimpArgs false
set_option maxRecDepth 20000
set_option maxHeartbeats 4000000
/-! ### All orders -/
namespace Go.Abs
open Go.Proofs
section
variable {P : Program}
theorem ACall.liftYS {f : Nat} {args0 args : List AV} {l0 : List (Nat × (Nat × Res))} {σ : Sig} {α : Type} {V : α → AV → Prop} {L : α → List (Nat × (Nat × Res))} {d : Nat} {Q : AV → Sig → Prop} (h : RawC P f args0 (sg l0) (SR V L)) (ρi : List (Nat × Nat)) (s : Option Nat) (hr : renOK (outs d s ++ ρi) = true)
    {l : Nat} {xs : Option (List (List AV))} (hy : σ YS = (0, .yld l xs)) (ha : args0 = renL (flipL ρi) args) (h0 : l0 = pull (flipL ρi) σ ρi ++ [(YS, (0, .yld l xs))]) (hl : liveL σ ρi) (hc : ∀ x, covers (L x) (outs d s ++ ρi) = true)
    (Y' : α → Nat × Res) (hcy : ∀ x, lkS YS (L x) = some (Y' x)) (hQ : ∀ x av, V x av → Q (ren (outs d s ++ ρi) av) (pushV (outs d s ++ ρi) (L x) (outs d s ++ ρi) (upd σ YS (Y' x)))) : ACall P f args σ d Q :=
  ACall.liftY h ρi s hr hy ha h0 hl fun av σ0' ⟨x, hV, hs⟩ => by rw [lkS_slots hs (hcy x), push_slots hs (hc x)]; exact hQ x av hV
theorem w_slF {K : (Nat → AV) → Sig → Prop} {e : Nat → AV} {σ : Sig} {α : Type} {f : α → List AV} {l : List α} {d sz : Nat} {t : Tag} {x h m : IOpd} {r : List IStep} (hx : x.ev e = .slc sz (l.map f) t)
    (hh : h.ev e = .int .i64 l.length) (hm : m.ev e = .int .i64 l.length) (hk : stepsW P r K (upd e d (.slc sz (l.map f) .full)) σ) : stepsW P (⟨some d, none, .slS sz x none (some h) (some m)⟩ :: r) K e σ := by
  refine w_val (v := .slc sz (((l.map f).drop (0 : Int).toNat).take ((l.length : Int) - 0).toNat) .full) (p := sz = sz ∧ 0 ≤ (0 : Int) ∧ (0 : Int) ≤ l.length ∧ (l.length : Int) ≤ (l.map f).length ∧ (l.length : Int) = l.length) ?_ ⟨rfl, by omega, by omega, by simp, rfl⟩ ?_
  · show slSO sz e (x.ev e) none (some h) (some m) = _
    rw [hx]
    simp only [slSO, boundO, hh, hm]
  · have : ((l.map f).drop (0 : Int).toNat).take ((l.length : Int) - 0).toNat = l.map f := by
      rw [show ((l.length : Int) - 0).toNat = (l.map f).length by simp]; simp only [Int.toNat_zero, List.drop_zero, List.take_length]
    rw [this]; exact hk
end
/-- The guests from s on that do not sit yet. -/
def candF (now : List Int) : Nat → Nat → List Int
  | 0, _ => []
  | m + 1, s => if 0 ≤ idxI now s then candF now m (s + 1) else (s : Int) :: candF now m (s + 1)
/-- All orders of n guests that begin so, k being missing. -/
def permsK (n : Nat) : Nat → List Int → List (List Int)
  | 0, now => [now]
  | k + 1, now => (candF now n 0).flatMap fun g => permsK n k (now ++ [g])
theorem candF_mem {now : List Int} : ∀ {m s : Nat} {x : Int}, x ∈ candF now m s → (s : Int) ≤ x ∧ x < s + m ∧ idxI now x < 0
  | m + 1, s, x, h => by
    simp only [candF] at h
    split at h
    · have := candF_mem h; omega
    · rename_i hs
      rcases List.mem_cons.1 h with rfl | h
      · exact ⟨by omega, by omega, by omega⟩
      · have := candF_mem h; omega
theorem permsK_mem {n : Nat} : ∀ {k : Nat} {now m : List Int}, m ∈ permsK n k now → m.length = now.length + k ∧ ((∀ i ∈ now, 0 ≤ i ∧ i < n) → ∀ i ∈ m, 0 ≤ i ∧ i < n)
  | 0, b, m, h => by simp [permsK] at h; subst h; exact ⟨rfl, id⟩
  | k + 1, b, m, h => by
    simp only [permsK, List.mem_flatMap] at h
    obtain ⟨i, hi, h⟩ := h
    obtain ⟨h1, h2⟩ := permsK_mem h
    simp at h1
    refine ⟨by omega, fun hb => h2 fun x hx => ?_⟩
    rcases List.mem_append.1 hx with hx | hx
    · exact hb x hx
    · simp at hx; subst hx
      have := candF_mem hi
      omega
abbrev encL (p : List Int) : List AV := [.slc 1 (iR p) .non]
/-- aloeswood/seat.orders -/
def ir32 : IFn :=
  ⟨4, [(2, none)], (.seq (.ops [⟨(some 1), none, (.box 1 (.t 0))⟩,
    ⟨(some 2), none, (.mov (.k .nfn))⟩])
  (.seq (.seq (.frz (.t 1))
  (.ops [⟨(some 3), none, (.mkf (.func 44) [] [(.t 1)])⟩,
    ⟨(some 2), none, (.mov (.t 3))⟩]))
  .ret))⟩
def hint32 (P : Program) : Hint := { site := [], nils := [], frz := [(3, 1)], mve := [], wr := [] }

/-- aloeswood/seat.orders$1 -/
def ir44 : IFn :=
  ⟨7, [], (.seq (.ops [⟨(some 2), none, (.box 1 (.t 0))⟩])
  (.seq (.ops [⟨(some 3), none, (.new [.nfn])⟩])
  (.seq (.ops [⟨(some 4), none, (.mkf (.func 45) [] [(.t 1), (.t 2), (.t 3)])⟩,
    ⟨none, none, (.st 1 (.t 3) (.t 4))⟩])
  (.ops [⟨(some 5), none, (.ld 1 false (.t 3))⟩,
    ⟨(some 6), none, (.callV (.t 5) [(.k .nsl)])⟩]))))⟩
def hint44 (P : Program) : Hint := {}

/-- aloeswood/seat.orders$1$1 -/
def ir45 : IFn :=
  ⟨38, [(5, none)], (.seq (.ops [⟨(some 5), none, (.mov (.k (.bool false)))⟩])
  (.seq (.seq (.ops [⟨(some 7), none, (.mov (.t 0))⟩,
    ⟨(some 8), none, (.len false (.t 7))⟩,
    ⟨(some 9), none, (.ld 1 false (.t 1))⟩,
    ⟨(some 10), none, (.bin .eql (.t 8) (.t 9))⟩])
  (.cnd (.t 10)
    (.seq (.ops [⟨(some 11), none, (.ld 1 false (.t 2))⟩,
      ⟨(some 12), none, (.mov (.t 0))⟩,
      ⟨(some 13), none, (.callF 13 [(.t 12)])⟩,
      ⟨none, none, (.chk 1 false (.t 2) 11)⟩,
      ⟨(some 14), none, (.callV (.t 11) [(.t 13)])⟩,
      ⟨(some 5), none, (.mov (.t 14))⟩])
    .ret)
    .skip))
  (.seq (.seq (.ops [⟨(some 15), none, (.ld 1 false (.t 1))⟩,
    ⟨(some 16), none, (.mov (.k (.int .i64 0)))⟩])
  (.blk 0 (.loop (.seq (.ops [⟨(some 17), none, (.bin .lss (.t 16) (.t 15))⟩])
      (.seq (.cnd (.t 17)
        .skip
        (.exit 0))
      (.seq (.blk 1 (.seq (.ops [⟨(some 18), none, (.mov (.t 16))⟩,
          ⟨(some 6), none, (.mov (.t 18))⟩])
        (.seq (.ops [⟨(some 19), none, (.mov (.t 0))⟩,
          ⟨(some 20), none, (.mov (.t 6))⟩,
          ⟨(some 21), none, (.callF 20 [(.t 19), (.t 20)])⟩,
          ⟨(some 22), none, (.not (.t 21))⟩,
          ⟨(some 23), none, (.mov (.t 22))⟩,
          ⟨(some 24), (some (23, true)), (.ld 1 false (.t 3))⟩,
          ⟨(some 25), (some (23, true)), (.mov (.t 0))⟩,
          ⟨(some 26), (some (23, true)), (.mov (.t 0))⟩,
          ⟨(some 27), (some (23, true)), (.len false (.t 26))⟩,
          ⟨(some 28), (some (23, true)), (.mov (.t 0))⟩,
          ⟨(some 29), (some (23, true)), (.len false (.t 28))⟩,
          ⟨(some 30), (some (23, true)), (.slS 1 (.t 25) none (some (.t 27)) (some (.t 29)))⟩,
          ⟨(some 31), (some (23, true)), (.mov (.t 6))⟩,
          ⟨(some 32), (some (23, true)), (.bsl 1 [[(.int .i64 0)]] [(0, (.t 31))])⟩,
          ⟨(some 33), (some (23, true)), (.app 1 8 (.t 30) (.t 32) 33)⟩,
          ⟨none, (some (23, true)), (.chk 1 false (.t 3) 24)⟩,
          ⟨(some 34), (some (23, true)), (.callV (.t 24) [(.t 33)])⟩,
          ⟨(some 35), (some (23, true)), (.not (.t 34))⟩,
          ⟨(some 36), none, (.pick (.t 23) (.t 35) (.k (.bool false)))⟩])
        (.cnd (.t 36)
          (.seq (.ops [⟨(some 5), none, (.mov (.k (.bool false)))⟩])
          .ret)
          .skip))))
      (.ops [⟨(some 37), none, (.bin .add (.t 16) (.k (.int .i64 1)))⟩,
        ⟨(some 16), none, (.mov (.t 37))⟩])))))))
  (.seq (.ops [⟨(some 5), none, (.mov (.k (.bool true)))⟩])
  .ret))))⟩
def hint45 (P : Program) : Hint := {}

/-- aloeswood/seat.allowed -/
def ir25 : IFn :=
  ⟨4, [(2, none)], (.seq (.ops [⟨(some 1), none, (.box 2 (.t 0))⟩,
    ⟨(some 2), none, (.mov (.k .nfn))⟩])
  (.seq (.seq (.frz (.t 1))
  (.ops [⟨(some 3), none, (.mkf (.func 31) [] [(.t 1)])⟩,
    ⟨(some 2), none, (.mov (.t 3))⟩]))
  .ret))⟩
def hint25 (P : Program) : Hint := { site := [], nils := [], frz := [(3, 1)], mve := [], wr := [] }

/-- aloeswood/seat.allowed$1 -/
def ir31 : IFn :=
  ⟨26, [], (.seq (.ops [⟨(some 2), none, (.box 1 (.t 0))⟩])
  (.seq (.ops [⟨(some 5), none, (.flA 0 (.t 1))⟩,
    ⟨(some 6), none, (.ld 1 false (.t 5))⟩,
    ⟨(some 7), none, (.len false (.t 6))⟩,
    ⟨(some 8), none, (.callF 32 [(.t 7)])⟩])
  (.blk 0 (.rf (.t 8) [9] (.ops [⟨(some 3), none, (.mov (.t 9))⟩])
      (.blk 1 (.seq (.ops [⟨(some 10), none, (.ld 2 true (.t 1))⟩,
          ⟨(some 11), none, (.mov (.t 3))⟩,
          ⟨(some 12), none, (.callF 21 [(.t 10), (.t 11)])⟩,
          ⟨(some 13), none, (.callF 22 [(.t 12)])⟩,
          ⟨(some 4), none, (.mov (.t 13))⟩])
        (.seq (.ops [⟨(some 14), none, (.mov (.t 4))⟩,
          ⟨(some 15), none, (.ld 2 true (.t 1))⟩,
          ⟨(some 16), none, (.callF 33 [(.t 15)])⟩,
          ⟨(some 17), none, (.bin .and (.t 14) (.t 16))⟩,
          ⟨(some 18), none, (.bin .eql (.t 17) (.k (.int .i64 0)))⟩,
          ⟨(some 19), none, (.mov (.t 18))⟩,
          ⟨(some 20), (some (19, true)), (.ld 1 false (.t 2))⟩,
          ⟨(some 21), (some (19, true)), (.mov (.t 3))⟩,
          ⟨(some 22), (some (19, true)), (.mov (.t 4))⟩,
          ⟨(some 23), (some (19, true)), (.callV (.t 20) [(.t 21), (.t 22)])⟩,
          ⟨(some 24), (some (19, true)), (.not (.t 23))⟩,
          ⟨(some 25), none, (.pick (.t 19) (.t 24) (.k (.bool false)))⟩])
        (.cnd (.t 25)
          .ret
          .skip))))))))⟩
def hint31 (P : Program) : Hint := {}

def walkS (n gy gw l : Nat) (y : Res) : List (Nat × (Nat × Res)) :=
  [(1000, (gy, .row [.clo (.yield l) [] []])), (1001, (gw, .row [.clo (.func 45) [] [.pin [.int .i64 n], .ref 1000 gy 0, .ref 1001 gw 0]])), (YS, (0, y))]
theorem walk_c (n gy gw l : Nat) (hn : n ≤ 10) (h1 : 1 ≤ n) : ∀ (k : Nat) (now : List Int) (rest : List (List Int)), now.length + k = n →
    RawC Try.prog 45 [.slc 1 (iR now) .non, .pin [.int .i64 n], .ref 1000 gy 0, .ref 1001 gw 0] (sg (walkS n gy gw l (.yld l (some ((permsK n k now ++ rest).map encL)))))
      (SR (fun (b : Bool) v => v = .bool b) (fun b => walkS n gy gw l (.yld l (yNext (rest.map encL) b))))
  | 0, now, rest, hk => by
    have hne : now ≠ [] := fun h => by rw [h] at hk; simp at hk; omega
    refine RawC.walk (H := hint45 Try.prog) ir45 Try.func45 rfl rfl rfl ?_
    unfold ir45
    repeat' (first
      | with_reducible (first | refine Rd.p ?_ | refine zE ?_ | refine zE0 ?_)
      | with_reducible (first | refine zI fun y hy => ?_ | refine zL ?_ | refine zS ?_ | refine zA fun _ => ?_ | refine zV ?_ | refine zC ?_ | refine zG ?_ | refine zU ?_ | refine zG0 ?_ | refine zU0 ?_ | refine zF ?_)
      | ((with_reducible refine acall_id ?_); refine ACall.val (clone_c _ _ (.inr ⟨rfl, hne⟩) (by omega)) rfl rfl ?_)
      | with_reducible refine zQi fun b => ?_
      | with_reducible (first | refine zX ?_ | refine zD fun _ => ?_ | refine zD0 ?_ | refine zN ?_ | refine zF0 ?_ | refine zX0 ?_ | refine z1 ?_ | refine z2 ?_ | refine z3 ?_ | refine z4 ?_ | refine z5 ?_ | refine z6 ?_ | refine z7 ?_ | refine z8 ?_ | refine y1 ?_ | refine y2 ?_ | refine y3 ?_ | refine y4 ?_ | refine y5 ?_ | refine y6 ?_ | refine y7 ?_ | refine y8 ?_ | refine Rt.p (fun _ => ?_) fun _ => ?_)
      | ((with_reducible apply w_ixM); (focus exact rfl); (focus exact rfl); case' hk => intro y hy) | ((with_reducible (first | apply w_val | apply q_ends)); (focus exact rfl)))
    exact ⟨b, rfl, (by repeat' (first | exact slots_nil | apply slots_cons | rfl | (rw [map_snoc]; rfl) | (rw [len_snoc]; rfl) | (rw [hS]; rfl) | (rw [hS, map_snoc]; rfl) | (refine int_eq ?_; (try dsimp only); omega) | (refine congrArg AV.bool ?_; simp_all; done)))⟩
  | k + 1, now, rest, hk => by
    refine RawC.walk (H := hint45 Try.prog) ir45 Try.func45 rfl rfl rfl ?_
    unfold ir45
    repeat' (first
      | with_reducible (first | refine Rd.p ?_ | refine zE ?_ | refine zE0 ?_)
      | with_reducible (first | refine zI fun y hy => ?_ | refine zL ?_ | refine zS ?_ | refine zA fun _ => ?_ | refine zV ?_ | refine zC ?_ | refine zG ?_ | refine zU ?_ | refine zG0 ?_ | refine zU0 ?_ | refine zF ?_)
      | with_reducible (first | refine zX ?_ | refine zD fun _ => ?_ | refine zD0 ?_ | refine zN ?_ | refine zF0 ?_ | refine zX0 ?_ | refine z1 ?_ | refine z2 ?_ | refine z3 ?_ | refine z4 ?_ | refine z5 ?_ | refine z6 ?_ | refine z7 ?_ | refine z8 ?_ | refine y1 ?_ | refine y2 ?_ | refine y3 ?_ | refine y4 ?_ | refine y5 ?_ | refine y6 ?_ | refine y7 ?_ | refine y8 ?_ | refine Rt.p (fun _ => ?_) fun _ => ?_)
      | ((with_reducible apply w_ixM); (focus exact rfl); (focus exact rfl); case' hk => intro y hy) | ((with_reducible (first | apply w_val | apply q_ends)); (focus exact rfl)))
    refine w_loopK [0, 1, 2, 3, 15] [1000, 1001] (fun x : Nat × Nat => x.1 + x.2 = n) (fun x => x.1) (fun x => [(16, .int .i64 x.2)]) (fun x => [(YS, (0, .yld l (some (((candF now x.1 x.2).flatMap (fun g => permsK n k (now ++ [g])) ++ rest).map encL))))]) (n, 0) (by simp) ⟨rfl, trivial⟩ ⟨rfl, trivial⟩ ?_
    rintro ⟨m, s⟩ hms e σ
    dsimp only at hms ⊢
    cases m with
    | zero =>
      repeat' (first
        | with_reducible (first | refine Rd.p ?_ | refine zE ?_ | refine zE0 ?_)
        | with_reducible (first | refine zI fun y hy => ?_ | refine zL ?_ | refine zS ?_ | refine zA fun _ => ?_ | refine zV ?_ | refine zC ?_ | refine zG ?_ | refine zU ?_ | refine zG0 ?_ | refine zU0 ?_ | refine zF ?_)
        | with_reducible (first | refine zX ?_ | refine zD fun _ => ?_ | refine zD0 ?_ | refine zN ?_ | refine zF0 ?_ | refine zX0 ?_ | refine z1 ?_ | refine z2 ?_ | refine z3 ?_ | refine z4 ?_ | refine z5 ?_ | refine z6 ?_ | refine z7 ?_ | refine z8 ?_ | refine y1 ?_ | refine y2 ?_ | refine y3 ?_ | refine y4 ?_ | refine y5 ?_ | refine y6 ?_ | refine y7 ?_ | refine y8 ?_ | refine Rt.p (fun _ => ?_) fun _ => ?_)
        | ((with_reducible apply w_ixM); (focus exact rfl); (focus exact rfl); case' hk => intro y hy) | ((with_reducible (first | apply w_val | apply q_ends)); (focus exact rfl)))
      exact ⟨true, rfl, (by repeat' (first | exact slots_nil | apply slots_cons | rfl | (rw [map_snoc]; rfl) | (rw [len_snoc]; rfl) | (rw [hS]; rfl) | (rw [hS, map_snoc]; rfl) | (refine int_eq ?_; (try dsimp only); omega) | (refine congrArg AV.bool ?_; simp_all; done)))⟩
    | succ m =>
      by_cases hc : 0 ≤ idxI now s
      · have hcd : candF now (m + 1) s = candF now m (s + 1) := by rw [candF, if_pos hc]
        rw [hcd]
        repeat' (first
          | with_reducible (first | refine Rd.p ?_ | refine zE ?_ | refine zE0 ?_)
          | with_reducible (first | refine zI fun y hy => ?_ | refine zL ?_ | refine zS ?_ | refine zA fun _ => ?_ | refine zV ?_ | refine zC ?_ | refine zG ?_ | refine zU ?_ | refine zG0 ?_ | refine zU0 ?_ | refine zF ?_)
          | ((with_reducible refine acall_id ?_); refine ACall.val (contains_c _ _ (by omega)) rfl rfl ?_)
          | with_reducible (first | refine zX ?_ | refine zD fun _ => ?_ | refine zD0 ?_ | refine zN ?_ | refine zF0 ?_ | refine zX0 ?_ | refine z1 ?_ | refine z2 ?_ | refine z3 ?_ | refine z4 ?_ | refine z5 ?_ | refine z6 ?_ | refine z7 ?_ | refine z8 ?_ | refine y1 ?_ | refine y2 ?_ | refine y3 ?_ | refine y4 ?_ | refine y5 ?_ | refine y6 ?_ | refine y7 ?_ | refine y8 ?_ | refine Rt.p (fun _ => ?_) fun _ => ?_)
          | ((with_reducible apply w_ixM); (focus exact rfl); (focus exact rfl); case' hk => intro y hy) | ((with_reducible (first | apply w_val | apply q_ends)); (focus exact rfl)))
        refine zQ (m, s + 1) ?_ ?_
        · dsimp only; omega
        · dsimp only; omega
      · have hcd : (candF now (m + 1) s).flatMap (fun g => permsK n k (now ++ [g])) ++ rest = permsK n k (now ++ [(s : Int)]) ++ ((candF now m (s + 1)).flatMap (fun g => permsK n k (now ++ [g])) ++ rest) := by
          rw [candF, if_neg hc, List.flatMap_cons, List.append_assoc]
        rw [hcd]
        have hrec := walk_c n gy gw l hn h1 k (now ++ [(s : Int)]) ((candF now m (s + 1)).flatMap (fun g => permsK n k (now ++ [g])) ++ rest) (by simp; omega)
        repeat' (first
          | with_reducible (first | refine Rd.p ?_ | refine zE ?_ | refine zE0 ?_)
          | (refine w_slF rfl rfl rfl ?_)
          | with_reducible (first | refine zI fun y hy => ?_ | refine zL ?_ | refine zS ?_ | refine zA fun _ => ?_ | refine zV ?_ | refine zC ?_ | refine zG ?_ | refine zU ?_ | refine zG0 ?_ | refine zU0 ?_ | refine zF ?_)
          | ((with_reducible refine acall_id ?_); refine ACall.val (contains_c _ _ (by omega)) rfl rfl ?_)
          | ((with_reducible refine acall_id ?_); (refine ACall.liftYS hrec [(1000, 1000), (1001, 1001)] none rfl rfl rfl rfl ⟨⟨_, rfl⟩, ⟨_, rfl⟩, trivial⟩ (fun _ => rfl) (fun b => (0, .yld l (yNext ((((candF now m (s + 1)).flatMap (fun g => permsK n k (now ++ [g])) ++ rest)).map encL) b))) (fun _ => rfl) ?_; rintro b _ rfl))
          | with_reducible (first | refine zX ?_ | refine zD fun _ => ?_ | refine zD0 ?_ | refine zN ?_ | refine zF0 ?_ | refine zX0 ?_ | refine z1 ?_ | refine z2 ?_ | refine z3 ?_ | refine z4 ?_ | refine z5 ?_ | refine z6 ?_ | refine z7 ?_ | refine z8 ?_ | refine y1 ?_ | refine y2 ?_ | refine y3 ?_ | refine y4 ?_ | refine y5 ?_ | refine y6 ?_ | refine y7 ?_ | refine y8 ?_ | refine Rt.p (fun _ => ?_) fun _ => ?_)
          | ((with_reducible apply w_ixM); (focus exact rfl); (focus exact rfl); case' hk => intro y hy) | ((with_reducible (first | apply w_val | apply q_ends)); (focus exact rfl)))
        · rename_i hb
          subst hb
          exact ⟨false, rfl, (by repeat' (first | exact slots_nil | apply slots_cons | rfl | (rw [map_snoc]; rfl) | (rw [len_snoc]; rfl) | (rw [hS]; rfl) | (rw [hS, map_snoc]; rfl) | (refine int_eq ?_; (try dsimp only); omega) | (refine congrArg AV.bool ?_; simp_all; done)))⟩
        · rename_i hb
          subst hb
          refine zQ (m, s + 1) ?_ ?_
          · dsimp only; omega
          · dsimp only; omega
theorem walk0_c (n gy gw l : Nat) (hn : n ≤ 10) (h1 : 1 ≤ n) :
    RawC Try.prog 45 [.nsl, .pin [.int .i64 n], .ref 1000 gy 0, .ref 1001 gw 0] (sg (walkS n gy gw l (.yld l (some ((permsK n n []).map encL)))))
      (SR (fun (b : Bool) v => v = .bool b) (fun b => walkS n gy gw l (.yld l (yNext [] b)))) := by
  have h := walk_c n gy gw l hn h1 n [] [] (by simp)
  rw [List.append_nil] at h
  exact RawC.weak (fun _ _ hr => SubL.rel (.cons Sub.nil (.cons (Sub.refl _) (.cons (Sub.refl _) (.cons (Sub.refl _) .nil)))) hr) h
theorem orders_it (n : Nat) (hn : n ≤ 10) (h1 : 1 ≤ n) : ItC Try.prog 44 [.pin [.int .i64 n]] ((permsK n n []).map encL) := by
  refine ItC.of fun l => ?_
  have hrec := fun gy gw => walk0_c n gy gw l hn h1
  refine RawC.walk (H := hint44 Try.prog) ir44 Try.func44 rfl rfl rfl ?_
  unfold ir44
  repeat' (first
    | with_reducible (first | refine Rd.p ?_ | refine zE ?_ | refine zE0 ?_)
    | with_reducible (first | refine zI fun y hy => ?_ | refine zL ?_ | refine zS ?_ | refine zA fun _ => ?_ | refine zV ?_ | refine zC ?_ | refine zG ?_ | refine zU ?_ | refine zG0 ?_ | refine zU0 ?_ | refine zF ?_)
    | ((with_reducible refine acall_id ?_); (refine ACall.liftYS (hrec _ _) [(1000, 2), (1001, 3)] none rfl rfl rfl rfl ⟨⟨_, rfl⟩, ⟨_, rfl⟩, trivial⟩ (fun _ => rfl) (fun b => (0, .yld l (yNext [] b))) (fun _ => rfl) ?_; rintro b _ rfl))
    | with_reducible (first | refine zX ?_ | refine zD fun _ => ?_ | refine zD0 ?_ | refine zN ?_ | refine zF0 ?_ | refine zX0 ?_ | refine z1 ?_ | refine z2 ?_ | refine z3 ?_ | refine z4 ?_ | refine z5 ?_ | refine z6 ?_ | refine z7 ?_ | refine z8 ?_ | refine y1 ?_ | refine y2 ?_ | refine y3 ?_ | refine y4 ?_ | refine y5 ?_ | refine y6 ?_ | refine y7 ?_ | refine y8 ?_ | refine Rt.p (fun _ => ?_) fun _ => ?_)
    | ((with_reducible apply w_ixM); (focus exact rfl); (focus exact rfl); case' hk => intro y hy) | ((with_reducible (first | apply w_val | apply q_ends)); (focus exact rfl)))
  cases b
  · exact .inl rfl
  · exact .inr rfl
theorem orders_c (n : Nat) : Fn0 Try.prog 32 [.int .i64 n] (fun v => v = .clo (.func 44) [] [.pin [.int .i64 n]]) := by
  refine RawC.walk (H := hint32 Try.prog) ir32 Try.func32 rfl rfl rfl ?_
  unfold ir32
  repeat' (first
    | with_reducible (first | refine Rd.p ?_ | refine zE ?_ | refine zE0 ?_)
    | with_reducible (first | refine zI fun y hy => ?_ | refine zL ?_ | refine zS ?_ | refine zA fun _ => ?_ | refine zV ?_ | refine zC ?_ | refine zG ?_ | refine zU ?_ | refine zG0 ?_ | refine zU0 ?_ | refine zF ?_)
    | (refine w_frzR rfl rfl rfl ?_)
    | with_reducible (first | refine zX ?_ | refine zD fun _ => ?_ | refine zD0 ?_ | refine zN ?_ | refine zF0 ?_ | refine zX0 ?_ | refine z1 ?_ | refine z2 ?_ | refine z3 ?_ | refine z4 ?_ | refine z5 ?_ | refine z6 ?_ | refine z7 ?_ | refine z8 ?_ | refine y1 ?_ | refine y2 ?_ | refine y3 ?_ | refine y4 ?_ | refine y5 ?_ | refine y6 ?_ | refine y7 ?_ | refine y8 ?_ | refine Rt.p (fun _ => ?_) fun _ => ?_)
    | ((with_reducible apply w_ixM); (focus exact rfl); (focus exact rfl); case' hk => intro y hy) | ((with_reducible (first | apply w_val | apply q_ends)); (focus exact rfl)))
  rfl
/-- The rules that an order breaks; those that must be kept; the orders that are allowed. -/
def brk (gs : List Guest) (rs : List Rule) (l : List Int) : Nat := bitsF (fun r => !keepsB gs (atL l) r) 0 rs
def mustN (rs : List Rule) : Nat := bitsF (fun r => decide (r.weight = 0)) 0 rs
def allowF (gs : List Guest) (rs : List Rule) : List (List Int) → List (List Int × Nat)
  | [] => []
  | l :: ls => if brk gs rs l &&& mustN rs = 0 then (l, brk gs rs l) :: allowF gs rs ls else allowF gs rs ls
abbrev perms (n : Nat) : List (List Int) := permsK n n []
abbrev enc2 (x : List Int × Nat) : List AV := [.slc 1 (iR x.1) .non, .int .i64 x.2]
theorem atF_bd {b : Int} : ∀ (l : List Int) (xs : List Int) (s : Nat), (∀ v ∈ xs, 0 ≤ v ∧ v < b) → (s + l.length : Int) ≤ b → ∀ v ∈ atF xs s l, 0 ≤ v ∧ v < b
  | [], xs, s, h, _, v, hv => h v hv
  | g :: r, xs, s, h, hs, v, hv => by
    simp only [List.length_cons] at hs
    refine atF_bd r (xs.set g.toNat s) (s + 1) (fun v hv => ?_) (by omega) v hv
    rcases List.mem_or_eq_of_mem_set hv with hv | rfl
    · exact h v hv
    · omega
theorem atL_bd (l : List Int) (h : l.length < 1000) : ∀ v ∈ atL l, 0 ≤ v ∧ v < 1000 :=
  atF_bd l _ 0 (fun v hv => by rw [(List.mem_replicate.1 hv).2]; omega) (by omega)
theorem atL_len (l : List Int) : (atL l).length = l.length := by rw [atF_len]; simp
theorem brk_lt (gs : List Guest) (rs : List Rule) (l : List Int) : brk gs rs l < 2 ^ rs.length := bitsF_lt _ 0 rs rs.length (by omega)
theorem mustN_lt (rs : List Rule) : mustN rs < 2 ^ rs.length := bitsF_lt _ 0 rs rs.length (by omega)
theorem pow62 {n : Nat} (h : n ≤ 12) : 2 ^ n < 2 ^ 62 := Nat.pow_lt_pow_right (by omega) (by omega)
theorem allowed_it (gs : List Guest) (rs : List Rule) (hg : gs.length ≤ 10) (h1 : 1 ≤ gs.length) (hr : ∀ r ∈ rs, rOK r gs.length) (hrs : rs.length ≤ 12) :
    ItC Try.prog 31 [.pin [.slc 5 (gR gs) .non, .slc 4 (rR rs) .non]] ((allowF gs rs (perms gs.length)).map enc2) := by
  refine ItC.of fun l => ?_
  refine RawC.walk (H := hint31 Try.prog) ir31 Try.func31 rfl rfl rfl ?_
  unfold ir31
  repeat' (first
    | with_reducible (first | refine Rd.p ?_ | refine zE ?_ | refine zE0 ?_)
    | with_reducible (first | refine zI fun y hy => ?_ | refine zL ?_ | refine zS ?_ | refine zA fun _ => ?_ | refine zV ?_ | refine zC ?_ | refine zG ?_ | refine zU ?_ | refine zG0 ?_ | refine zU0 ?_ | refine zF ?_)
    | ((with_reducible refine acall_id ?_); refine ACall.val (orders_c gs.length) rfl rfl ?_)
    | with_reducible (first | refine zX ?_ | refine zD fun _ => ?_ | refine zD0 ?_ | refine zN ?_ | refine zF0 ?_ | refine zX0 ?_ | refine z1 ?_ | refine z2 ?_ | refine z3 ?_ | refine z4 ?_ | refine z5 ?_ | refine z6 ?_ | refine z7 ?_ | refine z8 ?_ | refine y1 ?_ | refine y2 ?_ | refine y3 ?_ | refine y4 ?_ | refine y5 ?_ | refine y6 ?_ | refine y7 ?_ | refine y8 ?_ | refine Rt.p (fun _ => ?_) fun _ => ?_)
    | ((with_reducible apply w_ixM); (focus exact rfl); (focus exact rfl); case' hk => intro y hy) | ((with_reducible (first | apply w_val | apply q_ends)); (focus exact rfl)))
  rename_i g2
  refine w_rfM encL (perms gs.length) rfl (orders_it gs.length hg h1) (fun _ => rfl) [2] (fun (rest y : List (List Int)) => y = rest ∧ ∀ p ∈ rest, p.length = gs.length ∧ ∀ i ∈ p, 0 ≤ i ∧ i < (gs.length : Int)) (fun y => [(YS, (0, .yld l (some ((allowF gs rs y).map enc2))))]) (perms gs.length) ?_ ⟨rfl, trivial⟩ ?_ ?_
  · refine ⟨rfl, fun p hp => ?_⟩
    have := permsK_mem hp
    exact ⟨by simpa using this.1, this.2 (fun i hi => by cases hi)⟩
  · rintro x rest _ ⟨rfl, hp⟩ σ'
    have hx := hp x (by simp)
    have hrest : ∀ p ∈ rest, p.length = gs.length ∧ ∀ i ∈ p, 0 ≤ i ∧ i < (gs.length : Int) := fun p h => hp p (by simp [h])
    have hal := atL_len x
    have h62 := pow62 hrs
    have hand : bitV .and .i64 ((brk gs rs x : Nat) : Int) ((mustN rs : Nat) : Int) = ((brk gs rs x &&& mustN rs : Nat) : Int) := and_nat _ _ (Nat.lt_trans (brk_lt gs rs x) h62) (Nat.lt_trans (mustN_lt rs) h62)
    have hso := seatedOf_c gs rs x (by omega) (fun i hi => by rw [hx.1]; exact hx.2 i hi)
    have hbr : Fn0 Try.prog 22 [sA gs rs (atL x)] (fun v => v = .int .i64 (brk gs rs x)) := broken_c gs rs (atL x) (fun r h => by rw [hal, hx.1]; exact hr r h) (by omega) (by omega) (atL_bd x (by omega)) hrs
    have hst : Fn0 Try.prog 33 [pA gs rs] (fun v => v = .int .i64 (mustN rs)) := strict_c gs rs hrs
    by_cases h0 : brk gs rs x &&& mustN rs = 0
    · rw [show allowF gs rs (x :: rest) = (x, brk gs rs x) :: allowF gs rs rest by rw [allowF, if_pos h0]]
      rw [h0] at hand
      repeat' (first
        | with_reducible (first | refine Rd.p ?_ | refine zE ?_ | refine zE0 ?_)
        | with_reducible (first | refine zI fun y hy => ?_ | refine zL ?_ | refine zS ?_ | refine zA fun _ => ?_ | refine zV ?_ | refine zC ?_ | refine zG ?_ | refine zU ?_ | refine zG0 ?_ | refine zU0 ?_ | refine zF ?_)
        | ((with_reducible refine acall_id ?_); refine ACall.val hso rfl rfl ?_)
        | ((with_reducible refine acall_id ?_); refine ACall.val hbr rfl rfl ?_)
        | ((with_reducible refine acall_id ?_); refine ACall.val hst rfl rfl ?_)
        | with_reducible refine zQi fun b => ?_
        | with_reducible (first | refine zX ?_ | refine zD fun _ => ?_ | refine zD0 ?_ | refine zN ?_ | refine zF0 ?_ | refine zX0 ?_ | refine z1 ?_ | refine z2 ?_ | refine z3 ?_ | refine z4 ?_ | refine z5 ?_ | refine z6 ?_ | refine z7 ?_ | refine z8 ?_ | refine y1 ?_ | refine y2 ?_ | refine y3 ?_ | refine y4 ?_ | refine y5 ?_ | refine y6 ?_ | refine y7 ?_ | refine y8 ?_ | refine Rt.p (fun _ => ?_) fun _ => ?_)
        | ((with_reducible apply w_ixM); (focus exact rfl); (focus exact rfl); case' hk => intro y hy) | ((with_reducible (first | apply w_val | apply q_ends)); (focus exact rfl)))
      · rename_i hb; subst hb; exact .inl rfl
      · rename_i hb; subst hb; exact q_rnd rest ⟨rfl, hrest⟩ (by repeat' (first | exact slots_nil | apply slots_cons | rfl | (rw [map_snoc]; rfl) | (rw [len_snoc]; rfl) | (rw [hS]; rfl) | (rw [hS, map_snoc]; rfl) | (refine int_eq ?_; (try dsimp only); omega) | (refine congrArg AV.bool ?_; simp_all; done))) (by repeat' (first | exact kept_nil | apply kept_cons | rfl))
    · rw [show allowF gs rs (x :: rest) = allowF gs rs rest by rw [allowF, if_neg h0]]
      have hne : ¬ bitV .and .i64 ((brk gs rs x : Nat) : Int) ((mustN rs : Nat) : Int) = 0 := by rw [hand]; omega
      repeat' (first
        | with_reducible (first | refine Rd.p ?_ | refine zE ?_ | refine zE0 ?_)
        | with_reducible (first | refine zI fun y hy => ?_ | refine zL ?_ | refine zS ?_ | refine zA fun _ => ?_ | refine zV ?_ | refine zC ?_ | refine zG ?_ | refine zU ?_ | refine zG0 ?_ | refine zU0 ?_ | refine zF ?_)
        | ((with_reducible refine acall_id ?_); refine ACall.val hso rfl rfl ?_)
        | ((with_reducible refine acall_id ?_); refine ACall.val hbr rfl rfl ?_)
        | ((with_reducible refine acall_id ?_); refine ACall.val hst rfl rfl ?_)
        | with_reducible refine zQi fun b => ?_
        | with_reducible (first | refine zX ?_ | refine zD fun _ => ?_ | refine zD0 ?_ | refine zN ?_ | refine zF0 ?_ | refine zX0 ?_ | refine z1 ?_ | refine z2 ?_ | refine z3 ?_ | refine z4 ?_ | refine z5 ?_ | refine z6 ?_ | refine z7 ?_ | refine z8 ?_ | refine y1 ?_ | refine y2 ?_ | refine y3 ?_ | refine y4 ?_ | refine y5 ?_ | refine y6 ?_ | refine y7 ?_ | refine y8 ?_ | refine Rt.p (fun _ => ?_) fun _ => ?_)
        | ((with_reducible apply w_ixM); (focus exact rfl); (focus exact rfl); case' hk => intro y hy) | ((with_reducible (first | apply w_val | apply q_ends)); (focus exact rfl)))
      exact q_rnd rest ⟨rfl, hrest⟩ (by repeat' (first | exact slots_nil | apply slots_cons | rfl | (rw [map_snoc]; rfl) | (rw [len_snoc]; rfl) | (rw [hS]; rfl) | (rw [hS, map_snoc]; rfl) | (refine int_eq ?_; (try dsimp only); omega) | (refine congrArg AV.bool ?_; simp_all; done))) (by repeat' (first | exact kept_nil | apply kept_cons | rfl))
  · rintro _ ⟨rfl, _⟩ σ'
    repeat' (first
      | with_reducible (first | refine Rd.p ?_ | refine zE ?_ | refine zE0 ?_)
      | with_reducible (first | refine zI fun y hy => ?_ | refine zL ?_ | refine zS ?_ | refine zA fun _ => ?_ | refine zV ?_ | refine zC ?_ | refine zG ?_ | refine zU ?_ | refine zG0 ?_ | refine zU0 ?_ | refine zF ?_)
      | with_reducible (first | refine zX ?_ | refine zD fun _ => ?_ | refine zD0 ?_ | refine zN ?_ | refine zF0 ?_ | refine zX0 ?_ | refine z1 ?_ | refine z2 ?_ | refine z3 ?_ | refine z4 ?_ | refine z5 ?_ | refine z6 ?_ | refine z7 ?_ | refine z8 ?_ | refine y1 ?_ | refine y2 ?_ | refine y3 ?_ | refine y4 ?_ | refine y5 ?_ | refine y6 ?_ | refine y7 ?_ | refine y8 ?_ | refine Rt.p (fun _ => ?_) fun _ => ?_)
      | ((with_reducible apply w_ixM); (focus exact rfl); (focus exact rfl); case' hk => intro y hy) | ((with_reducible (first | apply w_val | apply q_ends)); (focus exact rfl)))
    exact .inr rfl
theorem allowed_c (gs : List Guest) (rs : List Rule) : Fn0 Try.prog 25 [pA gs rs] (fun v => v = .clo (.func 31) [] [.pin [.slc 5 (gR gs) .non, .slc 4 (rR rs) .non]]) := by
  refine RawC.walk (H := hint25 Try.prog) ir25 Try.func25 rfl rfl rfl ?_
  unfold ir25
  repeat' (first
    | with_reducible (first | refine Rd.p ?_ | refine zE ?_ | refine zE0 ?_)
    | with_reducible (first | refine zI fun y hy => ?_ | refine zL ?_ | refine zS ?_ | refine zA fun _ => ?_ | refine zV ?_ | refine zC ?_ | refine zG ?_ | refine zU ?_ | refine zG0 ?_ | refine zU0 ?_ | refine zF ?_)
    | (refine w_frzR rfl rfl rfl ?_)
    | with_reducible (first | refine zX ?_ | refine zD fun _ => ?_ | refine zD0 ?_ | refine zN ?_ | refine zF0 ?_ | refine zX0 ?_ | refine z1 ?_ | refine z2 ?_ | refine z3 ?_ | refine z4 ?_ | refine z5 ?_ | refine z6 ?_ | refine z7 ?_ | refine z8 ?_ | refine y1 ?_ | refine y2 ?_ | refine y3 ?_ | refine y4 ?_ | refine y5 ?_ | refine y6 ?_ | refine y7 ?_ | refine y8 ?_ | refine Rt.p (fun _ => ?_) fun _ => ?_)
    | ((with_reducible apply w_ixM); (focus exact rfl); (focus exact rfl); case' hk => intro y hy) | ((with_reducible (first | apply w_val | apply q_ends)); (focus exact rfl)))
  rfl
end Go.Abs
