/- A part of the proofs of the laws of this seat: contracts of the functions that they reach, each proved of the program's form in Lean. No condition beyond those that each contract names. -/
import Derived.Test.YtmekfgjlcaonjaaK25
import Derived.Test.YtmekfgjlcaonjaaK24
import Derived.Test.YtmekfgjlcaonjaaK23
import Derived.Test.YtmekfgjlcaonjaaK22
import Derived.Test.YtmekfgjlcaonjaaK21
import Derived.Test.YtmekfgjlcaonjaaK19
import Derived.Test.YtmekfgjlcaonjaaK18
import Derived.Test.YtmekfgjlcaonjaaK17
import Derived.Test.YtmekfgjlcaonjaaK16
import Derived.Test.YtmekfgjlcaonjaaK15
import Derived.Test.YtmekfgjlcaonjaaK14
import Derived.Test.YtmekfgjlcaonjaaK13
import Derived.Test.YtmekfgjlcaonjaaK12
import Derived.Test.YtmekfgjlcaonjaaD1
import Derived.Test.YtmekfgjlcaonjaaC3
import Derived.Test.YtmekfgjlcaonjaaC2
import Derived.Test.YtmekfgjlcaonjaaC1
import Derived.Test.YtmekfgjlcaonjaaB
import Derived.Test.YtmekfgjlcaonjaaD8
import Derived.Test.YtmekfgjlcaonjaaC13
import Derived.Test.YtmekfgjlcaonjaaC12
import Derived.Test.YtmekfgjlcaonjaaC11
import Derived.Test.YtmekfgjlcaonjaaC10
import Derived.Test.YtmekfgjlcaonjaaC9
import Derived.Test.YtmekfgjlcaonjaaC8
import Derived.Test.YtmekfgjlcaonjaaC7
import Derived.Test.YtmekfgjlcaonjaaC5
import Derived.Test.YtmekfgjlcaonjaaC4
import Derived.Test.YtmekfgjlcaonjaaD7
import Derived.Test.YtmekfgjlcaonjaaC6
import Derived.Test.YtmekfgjlcaonjaaK58
set_option linter.unusedVariables false
set_option linter.unusedSimpArgs false
set_option maxRecDepth 20000
set_option maxHeartbeats 1000000
namespace Go.Abs
open Go.Proofs
theorem lkAt_t {c : Chn} (ok : Okc c) (i : Int) : -1 ≤ (lkAt c.ls i).t ∧ (lkAt c.ls i).t ≤ 19 := by
  unfold lkAt
  cases hi : c.ls[i.toNat]? with
  | none => exact ⟨by decide, by decide⟩
  | some l => have := ok.to l (List.mem_of_getElem? hi); exact ⟨by simp only [Option.getD_some]; omega, by simp only [Option.getD_some]; omega⟩
theorem tell_all (c : Chn) (ok : Okc c) (o : List Int) (G : TPl) (hG : G.tg = .non) (hn : G.nL = c.ls.length) (hb : ∀ i ∈ o, 0 ≤ i ∧ i < c.ls.length) (hl : o.length ≤ 4) : ∀ (k : Nat) (ds : List Int) (S : Told), ds.length + k = o.length + 1 →
    RawC Try.prog 35 [cA c, .slc 1 (iR o) .non, .slc 1 (iR ds) .non, .ref 1000 G.gp 0] (sg (tRows 1000 1001 1002 G S)) (fun v σ' => v = .tup [] ∧ slots (tRows 1000 1001 1002 G (tellX c o (extD c o k ds) S)) σ')
  | 0, ds, S, hd => tell_leaf c ok o ds G S hG hn hb hl (by omega) (by have := ok.own; omega) (lkAt_t ok)
  | k + 1, ds, S, hd => tell_step c ok o G hG hn hb hl k (fun ds S h => tell_all c ok o G hG hn hb hl k ds S h) ds S hd
theorem getI_snoc (x : Int) : ∀ l : List Int, getI (l ++ [x]) (l.length : Nat) = x := fun l => by
  unfold getI
  rw [Int.toNat_natCast, List.getElem?_append_right (Nat.le_refl _), Nat.sub_self]; rfl
theorem extD_allD (c : Chn) (o : List Int) : ∀ (r p : List Int) (ds : List Int) (x : Int), o = p ++ r → ds.length = p.length → extD c o r.length (ds ++ [x]) = (allD c.ls x r).map fun l => ds ++ [x] ++ l
  | [], p, ds, x, _, _ => by simp [extD, allD]
  | i :: r, p, ds, x, ho, hd => by
    have hl : (ds ++ [x]).length = ds.length + 1 := by simp
    have hgo : getI o ((ds ++ [x]).length - 1 : Nat) = i := by
      rw [hl, Nat.add_sub_cancel, hd, ho]
      unfold getI
      rw [Int.toNat_natCast, List.getElem?_append_right (Nat.le_refl _), Nat.sub_self]; rfl
    have hr : dayR c o (ds ++ [x]) = ((lkAt c.ls i).lo, (lkAt c.ls i).hi) := by
      unfold dayR
      rw [if_neg (by omega), hgo]
    have hB : dayB (ds ++ [x]) = fun d => decide (x < d) := by
      funext d
      unfold dayB
      rw [decide_eq_false (by omega), Bool.false_or, hl, Nat.add_sub_cancel, getI_snoc]
    show extD c o (r.length + 1) (ds ++ [x]) = _
    rw [extD, hr, hB, allD, List.map_flatMap]
    refine flatMap_congr' fun y _ => ?_
    rw [extD_allD c o r (p ++ [i]) (ds ++ [x]) y (by rw [ho]; simp) (by simp [hd]), List.map_map]
    refine List.map_congr_left fun l _ => ?_
    simp
theorem extD_allS (c : Chn) (o : List Int) : extD c o (o.length + 1) [] = allS c o := by
  have hB : ∀ l : List Int, l.filter (dayB []) = l := fun l => List.filter_eq_self.2 fun _ _ => rfl
  rw [extD, hB, allS]
  show (rngI c.lo c.hi).flatMap _ = _
  refine flatMap_congr' fun d _ => ?_
  rw [extD_allD c o o [] [] d rfl rfl]
  rfl
/-- tell, with no days chosen. -/
theorem tell_c (c : Chn) (ok : Okc c) (o : List Int) (G : TPl) (S : Told) (hG : G.tg = .non) (hn : G.nL = c.ls.length) (hb : ∀ i ∈ o, 0 ≤ i ∧ i < c.ls.length) (hl : o.length ≤ 4) :
    RawC Try.prog 35 [cA c, .slc 1 (iR o) .non, .nsl, .ref 1000 G.gp 0] (sg (tRows 1000 1001 1002 G S)) (fun v σ' => v = .tup [] ∧ slots (tRows 1000 1001 1002 G (tellX c o (allS c o) S)) σ') := by
  have h := tell_all c ok o G hG hn hb hl (o.length + 1) [] S (by simp)
  rw [extD_allS] at h
  exact RawC.weak (fun _ _ hr => SubL.rel (.cons (Sub.refl _) (.cons (Sub.refl _) (.cons Sub.nil (.cons (Sub.refl _) .nil)))) hr) h
end Go.Abs
