/- A part of the proofs of the laws of this seat: contracts of the functions that they reach, each proved of the program's form in Lean. No condition beyond those that each contract names. -/
import Derived.Test.YtajbhojompefoaaB0
import Derived.Test.YtajbhojompefoaaB5
import Derived.Test.YtajbhojompefoaaB4
import Derived.Test.YtajbhojompefoaaB2
import Derived.Test.YtajbhojompefoaaB3
set_option linter.unusedVariables false
set_option linter.unusedSimpArgs false
set_option maxRecDepth 20000
set_option maxHeartbeats 4000000
/-! ### Menu -/
namespace Go.Abs
open Go.Proofs
def dsErr : List Dish → Int
  | [] => 0
  | d :: r => if dErr d = 0 then dsErr r else dErr d
theorem dsErr_0 : ∀ {ds : List Dish}, dsErr ds = 0 → dsOK ds
  | [], _ => fun d hd => by cases hd
  | d :: r, h => by
    simp only [dsErr] at h
    split at h
    · rename_i h0
      intro x hx
      rcases List.mem_cons.1 hx with rfl | hx
      · exact h0
      · exact dsErr_0 h x hx
    · rename_i h0; exact absurd h h0
def bestM (l : List Guest) (ds : List Dish) (turns need : Int) : Option (List Int) × Int := (menusK ds turns.toNat []).foldl (stepM l ds need) (none, 0)
def knownE (l : List Guest) : Int := if 10 < l.length then 8 else gsErr [] l
/-- Menu: the menu, what it costs, the error. -/
def menuP (l : List Guest) (ds : List Dish) (turns need : Int) : Option (List Int) × Int × Int :=
  if knownE l = 0 then
    if 16 < ds.length then (none, 0, 8) else if dsErr ds = 0 then
      if (inB turns 1 4 && inB need 0 turns) = true then
        if (bestM l ds turns need).1 = none then (none, 0, 7) else ((bestM l ds turns need).1, (bestM l ds turns need).2, 0)
      else (none, 0, 2)
    else (none, 0, dsErr ds)
  else (none, 0, knownE l)
theorem bestM_ok (l : List Guest) (ds : List Dish) (turns need : Int) (h : 1 ≤ turns) : okAcc (bestM l ds turns need) :=
  okAcc_fold (fun m hm => by cases hm) fun m hm h0 => by
    have := (menusK_mem hm).1
    rw [h0] at this; simp at this; omega
end Go.Abs
