/- What each parameter of these laws is known to be: of its kind, its numbers in range, its sizes within the reach. Conditions: the argument reads as data and weighs no more than the reach. -/
import Derived.Test.YtogndjjoeahccaaDoorQ0
import Derived.Test.YtogndjjoeahccaaDoorOpen
namespace Go.Proofs.YtogndjjoeahccaaDoor.Q
open Go.RowKit Go.Proofs.YtogndjjoeahccaaDoorW.PrintWords Go.Proofs.YtogndjjoeahccaaDoor.Opens
set_option linter.unusedVariables false
def G0 (x : ByteArray) : Prop := x.size ≤ 140737488351232
section
variable {H : Type} {enc : TypeId × Value → H} {W : World}
theorem op9 : Opens enc Tryd.prog W 9 Kd.string G0 := opens_string Tryd.underlying9
end
end Go.Proofs.YtogndjjoeahccaaDoor.Q
