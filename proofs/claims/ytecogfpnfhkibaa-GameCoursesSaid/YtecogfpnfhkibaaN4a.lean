/- A part of the proofs of the laws of this seat: contracts of the functions that they reach, each proved of the program's form in Lean. No condition beyond those that each contract names. -/
import Derived.Test.YtecogfpnfhkibaaProg
import Derived.Test.YtecogfpnfhkibaaSnd3
import Derived.Test.YtecogfpnfhkibaaA0
import Derived.Test.YtecogfpnfhkibaaN1a
import Derived.Test.YtecogfpnfhkibaaN1b
import Derived.Test.YtecogfpnfhkibaaN1c
import Derived.Test.YtecogfpnfhkibaaN1d
import Derived.Test.YtecogfpnfhkibaaN1e
import Derived.Test.YtecogfpnfhkibaaN1f
import Derived.Test.YtecogfpnfhkibaaN1g
set_option linter.unusedVariables false
set_option linter.unusedSimpArgs false
set_option maxRecDepth 20000
set_option maxHeartbeats 4000000
namespace Go.Abs
open Go.Proofs
theorem Sub.tupM {l m:List AV} (h:SubL l m):Sub (.tup l) (.tup m):=fun G v ⟨vs,h1,h2⟩=>⟨vs,h1,SubL.rel h h2⟩
theorem sub_crsA (l:List (List Int×Int)) (e:Int):Sub (crsA l e) (.tup [.slc 1 (llR (l.map (·.1))) .non,.slc 1 (iR (l.map (·.2))) .non,.int .i64 e]):=by
 cases l with
 | nil=>exact Sub.tupM (.cons Sub.nil (.cons Sub.nil (.cons (Sub.refl _) .nil)))
 | cons=>exact Sub.refl _
theorem subV2 {P:Program} {f:Nat} {args:List AV} {a b:AV} (h:Fn0 P f args (fun v=>v=a)) (hs:Sub a b):Fn0 P f args (fun v=>v=b):=
 h.sub fun _ _ e=>⟨b,e▸hs,rfl⟩
theorem crsO_bd (G:Gm):(crsO G).1.length≤5000∧ ∀x∈(crsO G).1,x.1.length≤9:=by
 unfold crsO
 by_cases h0:gmErr G=0
 · rw[if_pos h0]
   by_cases h5:(crsG G).length≤5000
   · rw[if_pos h5]
     refine⟨h5,fun x hx=>?_⟩
     have hG:=gm_ok h0
     have:=((crsG_mem hG).1 hx).1.1
     have:=hG.cen
     omega
   · rw[if_neg h5]
     exact⟨Nat.zero_le _,fun x hx=>by cases hx⟩
 · rw[if_neg h0]
   exact⟨Nat.zero_le _,fun x hx=>by cases hx⟩
end Go.Abs
