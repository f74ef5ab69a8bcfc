/- A part of the proofs of the laws of this seat: contracts of the functions that they reach, each proved of the program's form in Lean. No condition beyond those that each contract names. -/
import Derived.Test.YtmekfgjlcaonjaaE7
import Derived.Test.YtmekfgjlcaonjaaE5
import Derived.Test.YtmekfgjlcaonjaaE2
import Derived.Test.YtmekfgjlcaonjaaC14
import Derived.Test.YtmekfgjlcaonjaaC13
import Derived.Test.YtmekfgjlcaonjaaC12
import Derived.Test.YtmekfgjlcaonjaaC11
import Derived.Test.YtmekfgjlcaonjaaC10
import Derived.Test.YtmekfgjlcaonjaaC9
import Derived.Test.YtmekfgjlcaonjaaC8
import Derived.Test.YtmekfgjlcaonjaaC7
import Derived.Test.YtmekfgjlcaonjaaC5
import Derived.Test.YtmekfgjlcaonjaaC4
import Derived.Test.YtmekfgjlcaonjaaC2
import Derived.Test.YtmekfgjlcaonjaaC1
import Derived.Test.YtmekfgjlcaonjaaB
import Derived.Test.YtmekfgjlcaonjaaE6
import Derived.Test.YtmekfgjlcaonjaaD8
import Derived.Test.YtmekfgjlcaonjaaC16
set_option linter.unusedVariables false
set_option linter.unusedSimpArgs false
set_option maxRecDepth 20000
set_option maxHeartbeats 4000000
namespace Go.Abs
open Go.Proofs
theorem Sub.tup {l m : List AV} (h : SubL l m) : Sub (.tup l) (.tup m) := fun G v ⟨vs, h1, h2⟩ => ⟨vs, h1, SubL.rel h h2⟩
theorem Plan_w (s : Sea) (h1 : s.ss.length < 1000) (h2 : s.gs.length < 1000) (h3 : ∀ l ∈ s.gs, l.length < 1000) : Fn0 Try.prog 44 [seA s] (fun v => v = .tup [.slc 1 (iR (planF s)) .non, .int .i64 (seaE s)]) :=
  RawC.sub (Plan_s s h1 h2 h3) fun a _ h => ⟨_, by rw [h]; exact Sub.tup (.cons (optI_now _).sub (.cons (Sub.refl _) .nil)), rfl⟩
theorem Fewest_w (s : Sea) (h1 : s.ss.length < 1000) (h2 : s.gs.length < 1000) (h3 : ∀ l ∈ s.gs, l.length < 1000) : Fn0 Try.prog 46 [seA s] (fun v => v = .tup [.slc 1 (iR (fewF s).1) .non, .int .i64 (fewF s).2, .int .i64 (seaE s)]) :=
  RawC.sub (Fewest_s s h1 h2 h3) fun a _ h => ⟨_, by rw [h]; exact Sub.tup (.cons (optI_now _).sub (.cons (Sub.refl _) (.cons (Sub.refl _) .nil))), rfl⟩
end Go.Abs
