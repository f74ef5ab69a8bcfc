/- A part of the proofs of the laws of this seat: contracts of the functions that they reach, each proved of the program's form in Lean. No condition beyond those that each contract names. -/
import Derived.Test.YtecogfpnfhkibaaProg
import Derived.Test.YtecogfpnfhkibaaSnd3
import Derived.Test.YtecogfpnfhkibaaA0
import Derived.Test.YtecogfpnfhkibaaN1a
import Derived.Test.YtecogfpnfhkibaaN1b
import Derived.Test.YtecogfpnfhkibaaN1c
import Derived.Test.YtecogfpnfhkibaaN1d
import Derived.Test.YtecogfpnfhkibaaN1e
import Derived.Test.YtecogfpnfhkibaaN1f
import Derived.Test.YtecogfpnfhkibaaN1g
set_option linter.unusedVariables false
set_option linter.unusedSimpArgs false
set_option maxRecDepth 20000
set_option maxHeartbeats 4000000
namespace Go.Abs
open Go.Proofs
section
variable {P:Program}
structure FlatR {α:Type} (row:α→List AV) (sz:Nat):Prop where
 len:∀x,(row x).length=sz
 norm:∀x,normL (row x)=row x
 scal:∀x,(row x).all AV.scal=true
 frz:∀i g c x,frzL i g c (row x)=row x
 ren:∀ρ x,renL ρ (row x)=row x
variable {α:Type} {row:α→List AV} {sz:Nat}
theorem FlatR.flat_len (h:FlatR row sz):∀xs:List α,(xs.map row).flatten.length=xs.length*sz
 | []=>by simp
 | x::xs=>by simp only[List.map_cons,List.flatten_cons,List.length_append,h.len,h.flat_len xs,List.length_cons,Nat.add_mul];omega
theorem FlatR.chunk (h:FlatR row sz):∀xs:List α,chunk sz xs.length (normL (xs.map row).flatten)=xs.map row
 | []=>rfl
 | x::xs=>by
   have e:normL ((x::xs).map row).flatten=row x++normL (xs.map row).flatten:=by
    simp only[List.map_cons,List.flatten_cons,normL,List.map_append]
    congr 1
    exact h.norm x
   rw[e,List.length_cons,Go.Abs.chunk,List.take_left' (h.len x),List.drop_left' (h.len x),h.chunk xs];rfl
theorem FlatR.set (h:FlatR row sz) {pre post:List α} {y y':α} {j:Nat} {c:AV} (hj:j<sz) (hy:(row y).set j c=row y'):((pre++y::post).map row).flatten.set (pre.length*sz+j) c=((pre++y'::post).map row).flatten:=by
 rw[List.map_append,List.map_cons,List.flatten_append,List.flatten_cons,List.set_append_right _ _ (by rw[h.flat_len];omega),h.flat_len,Nat.add_sub_cancel_left,List.set_append_left _ _ (by rw[h.len];exact hj),hy]
 simp
end
end Go.Abs
