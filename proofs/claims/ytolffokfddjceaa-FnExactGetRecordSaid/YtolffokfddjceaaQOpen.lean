/- What each parameter of these laws is known to be: of its kind, its numbers in range, its sizes within the reach. Conditions: the argument reads as data and weighs no more than the reach. -/
import Derived.Test.YtolffokfddjceaaQ0
import Derived.Test.YtolffokfddjceaaOpen
namespace Go.Proofs.Ytolffokfddjceaa.Q
open Go.RowKit Go.Proofs.YtolffokfddjceaaW.PrintWords Go.Proofs.Ytolffokfddjceaa.Opens
set_option linter.unusedVariables false
def G0 (x : ByteArray) : Prop := x.size ≤ 140737488351232
def G1 (x : Int) : Prop := (Lit.int .i64 x).wf = true
def G2 (_ : Bool) : Prop := True
section
variable {H : Type} {enc : TypeId × Value → H} {W : World}
theorem op9 : Opens enc Try.prog W 9 Kd.string G0 := opens_string Try.underlying9
end
end Go.Proofs.Ytolffokfddjceaa.Q
