/- A part of the proofs of the laws of this seat: contracts of the functions that they reach, each proved of the program's form in Lean. No condition beyond those that each contract names. -/
import Derived.Test.YtmekfgjlcaonjaaD7
import Derived.Test.YtmekfgjlcaonjaaD1
import Derived.Test.YtmekfgjlcaonjaaC4
import Derived.Test.YtmekfgjlcaonjaaC3
import Derived.Test.YtmekfgjlcaonjaaC2
import Derived.Test.YtmekfgjlcaonjaaC1
import Derived.Test.YtmekfgjlcaonjaaB
set_option linter.unusedVariables false
set_option linter.unusedSimpArgs false
set_option maxRecDepth 20000
set_option maxHeartbeats 4000000
namespace Go.Abs
open Go.Proofs
def Lnk.row (g : Lnk) : List AV := [.int .i64 g.f, .int .i64 g.t, .int .i64 g.lo, .int .i64 g.hi]
section
variable {P : Program}
theorem w_ixE {K : (Nat → AV) → Sig → Prop} {e : Nat → AV} {σ : Sig} {α : Type} {f : α → List AV} {l : List α} {d sz : Nat} {t : Tag} {x i : IOpd} {r : List IStep} {k : IntKind} {n : Nat} {y : α} (hy : l[n]? = some y) (hx : x.ev e = .slc sz (l.map f) t) (hi : i.ev e = .int k (n : Int))
    (hk : stepsW P r K (upd e d (.pin (f y))) σ) : stepsW P (⟨some d, none, .ixA sz x i⟩ :: r) K e σ := by
  obtain ⟨hn, hy'⟩ := List.getElem?_eq_some_iff.1 hy
  refine w_ixM hx hi (by omega) fun z hz => ?_
  rw [Int.toNat_natCast, hy] at hz
  obtain rfl : y = z := by simpa using hz
  exact hk
end
/-- aloeswood/aloeswoodkit.OwnChain -/
def ir21v : IFn :=
  ⟨9, [(2, some (4, true))], (.seq (.ops [⟨(some 1), none, (.box 4 (.t 0))⟩,
    ⟨(some 2), none, (.new [(.int .i64 0), (.int .i64 0), (.int .i64 0), .nsl])⟩])
  (.seq (.ops [⟨(some 3), none, (.bsl 4 [] [])⟩,
    ⟨(some 4), none, (.flA 3 (.t 1))⟩,
    ⟨(some 5), none, (.ld 1 false (.t 4))⟩,
    ⟨(some 6), none, (.apm 4 32 (.t 3) (.t 5) 6)⟩,
    ⟨(some 7), none, (.flA 3 (.t 1))⟩,
    ⟨none, none, (.st 1 (.t 7) (.t 6))⟩])
  (.seq (.ops [⟨(some 8), none, (.ld 4 true (.t 1))⟩,
    ⟨none, none, (.st 4 (.t 2) (.t 8))⟩])
  .ret)))⟩
def hint21v (P : Program) : Hint := { site := [], nils := [], frz := [], mve := [], wr := [6] }
theorem ownChain0_c (mk lo hi : Int) : RawC Try.prog 21 [.agg [.int .i64 mk, .int .i64 lo, .int .i64 hi, .slc 4 [] .non]] (sg []) (SR (fun (_ : Unit) v => v = .agg [.int .i64 mk, .int .i64 lo, .int .i64 hi, .slc 4 [] .full]) (fun _ => [])) := by
  refine RawC.walk (H := hint21v Try.prog) ir21v Try.func21 rfl rfl rfl ?_
  unfold ir21v
  repeat' (first
    | with_reducible (first | refine Rd.p ?_ | refine w_alt ?_ ?_ | refine zO ?_ | refine zE0 ?_)
    | with_reducible (first | refine zI fun y hy => ?_ | refine zL ?_ | refine zS ?_ | refine zA fun _ => ?_ | refine zV ?_ | refine zC ?_ | refine zG ?_ | refine zU ?_ | refine zG0 ?_ | refine zU0 ?_ | refine zF ?_)
    | with_reducible (first | refine zX ?_ | refine zD fun _ => ?_ | refine zD0 ?_ | refine zN ?_ | refine zF0 ?_ | refine zX0 ?_ | refine z1 ?_ | refine z2 ?_ | refine z3 ?_ | refine z4 ?_ | refine z5 ?_ | refine z6 ?_ | refine z7 ?_ | refine z8 ?_ | refine y1 ?_ | refine y2 ?_ | refine y3 ?_ | refine y4 ?_ | refine y5 ?_ | refine y6 ?_ | refine y7 ?_ | refine y8 ?_ | refine Rt.p (fun _ => ?_) fun _ => ?_)
    | ((with_reducible apply w_ixM); (focus exact rfl); (focus exact rfl); case' hk => intro y hy) | ((with_reducible (first | apply w_val | apply q_ends)); (focus exact rfl)))
  exact ⟨(), rfl, trivial⟩
theorem ownChainE_c (c : Chn) (h : c.ls = []) : RawC Try.prog 21 [cA c] (sg []) (SR (fun (_ : Unit) v => v = .agg [.int .i64 c.maker, .int .i64 c.lo, .int .i64 c.hi, .slc 4 (lR []) .non]) (fun _ => [])) := by
  obtain ⟨mk, lo, hi, ls⟩ := c
  obtain rfl : ls = [] := h
  refine RawC.sub (ownChain0_c mk lo hi) fun a s => ?_
  rintro ⟨u, rfl, _⟩
  exact ⟨_, Sub.agg (.cons (Sub.refl _) (.cons (Sub.refl _) (.cons (Sub.refl _) (.cons Sub.tag2 .nil)))), u, rfl, trivial⟩
end Go.Abs
