/- What each parameter of these laws is known to be: of its kind, its numbers in range, its sizes within the reach. Conditions: the argument reads as data and weighs no more than the reach. -/
import Derived.Test.YtannckkmelihdaaQ0
import Derived.Test.YtannckkmelihdaaOpen
namespace Go.Proofs.Ytannckkmelihdaa.Q
open Go.RowKit Go.Proofs.YtannckkmelihdaaW.PrintWords Go.Proofs.Ytannckkmelihdaa.Opens
set_option linter.unusedVariables false
def G0 (x : ByteArray) : Prop := x.size ≤ 140737488351232
def G1 (x : Int) : Prop := (Lit.int .i64 x).wf = true
def G2 (x : List ByteArray) : Prop := x.length ≤ maxLen ∧ x.length * 16 ≤ 140737488351232 ∧ ∀ y ∈ x, G0 y
def G3 (x : Int) : Prop := (Lit.int .u8 x).wf = true
section
variable {H : Type} {enc : TypeId × Value → H} {W : World}
theorem op9 : Opens enc Try.prog W 9 Kd.string G0 := opens_string Try.underlying9
theorem op2 : Opens enc Try.prog W 2 (Kd.int .i64) G1 := opens_int Try.underlying2
end
end Go.Proofs.Ytannckkmelihdaa.Q
