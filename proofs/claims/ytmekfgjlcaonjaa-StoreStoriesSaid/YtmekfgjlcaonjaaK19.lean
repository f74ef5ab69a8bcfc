/- A part of the proofs of the laws of this seat: contracts of the functions that they reach, each proved of the program's form in Lean. No condition beyond those that each contract names. -/
import Derived.Test.YtmekfgjlcaonjaaK18
import Derived.Test.YtmekfgjlcaonjaaK17
import Derived.Test.YtmekfgjlcaonjaaK16
import Derived.Test.YtmekfgjlcaonjaaK15
import Derived.Test.YtmekfgjlcaonjaaK13
import Derived.Test.YtmekfgjlcaonjaaK14
import Derived.Test.YtmekfgjlcaonjaaD7
import Derived.Test.YtmekfgjlcaonjaaD5
import Derived.Test.YtmekfgjlcaonjaaD4
import Derived.Test.YtmekfgjlcaonjaaD3
import Derived.Test.YtmekfgjlcaonjaaD2
import Derived.Test.YtmekfgjlcaonjaaD1
import Derived.Test.YtmekfgjlcaonjaaC6
import Derived.Test.YtmekfgjlcaonjaaC5
import Derived.Test.YtmekfgjlcaonjaaC4
import Derived.Test.YtmekfgjlcaonjaaC3
import Derived.Test.YtmekfgjlcaonjaaC2
import Derived.Test.YtmekfgjlcaonjaaC1
import Derived.Test.YtmekfgjlcaonjaaB
import Derived.Test.YtmekfgjlcaonjaaD8
set_option linter.unusedVariables false
set_option linter.unusedSimpArgs false
set_option maxRecDepth 20000
set_option maxHeartbeats 4000000
namespace Go.Abs
theorem due_eq {c : Chn} (ok : DaysOK c) : ((permsK c.ls.length c.ls.length []).filter fun o => linkB c.ls c.maker o).filter (fun o => !(allS c o).isEmpty) = (talesF c).map (·.1) := by
  rw [talesF_perms, List.map_map, List.filter_filter]
  rw [show ((fun x : List Int × List Int => x.1) ∘ fun m => (m, leO c m)) = (fun m => m) from rfl, List.map_id']
  refine List.filter_congr fun o _ => ?_
  show (!(allS c o).isEmpty && linkB c.ls c.maker o) = (linkB c.ls c.maker o && fitB c.ls c.lo o)
  rw [Bool.and_comm]
  refine congrArg _ ?_
  cases hf : fitB c.ls c.lo o with
  | false => rw [(allS_nil ok).2 hf]; rfl
  | true =>
    cases ha : allS c o with
    | nil => have := (allS_nil ok).1 ha; rw [hf] at this; cases this
    | cons _ _ => rfl
/-- A link's place in an order: what its days say, one story after the other. -/
def tellLo (j : Nat) (z : Int) (X : List (List Int)) : Int := mnG (fun ds => getI ds (j : Int)) z X
def tellHi (j : Nat) (z : Int) (X : List (List Int)) : Int := mxG (fun ds => getI ds (j : Int)) z X
theorem mnG_app {α : Type} (f : α → Int) (z : Int) (X Y : List α) : mnG f z (X ++ Y) = mnG f (mnG f z X) Y := List.foldl_append
theorem mxG_app {α : Type} (f : α → Int) (z : Int) (X Y : List α) : mxG f z (X ++ Y) = mxG f (mxG f z X) Y := List.foldl_append
theorem mnG_map {α β : Type} (f : β → Int) (g : α → β) (z : Int) (X : List α) : mnG f z (X.map g) = mnG (fun x => f (g x)) z X := List.foldl_map
theorem mxG_map {α β : Type} (f : β → Int) (g : α → β) (z : Int) (X : List α) : mxG f z (X.map g) = mxG (fun x => f (g x)) z X := List.foldl_map
end Go.Abs
