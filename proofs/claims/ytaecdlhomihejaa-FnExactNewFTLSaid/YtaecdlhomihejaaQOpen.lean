/- What each parameter of these laws is known to be: of its kind, its numbers in range, its sizes within the reach. Conditions: the argument reads as data and weighs no more than the reach. -/
import Derived.Test.YtaecdlhomihejaaQ0
import Derived.Test.YtaecdlhomihejaaOpen
namespace Go.Proofs.Ytaecdlhomihejaa.Q
open Go.RowKit Go.Proofs.YtaecdlhomihejaaW.PrintWords Go.Proofs.Ytaecdlhomihejaa.Opens
set_option linter.unusedVariables false
def G0 (x : Int) : Prop := (Lit.int .i64 x).wf = true
def G9 (x : S23) : Prop := G0 x.f0 ∧ G0 x.f1 ∧ G0 x.f2
section
variable {H : Type} {enc : TypeId × Value → H} {W : World}
theorem op2 : Opens enc Try.prog W 2 (Kd.int .i64) G0 := opens_int Try.underlying2
theorem op23 : Opens enc Try.prog W 23 k23 G9 := opens_struct (fun y => (⟨y.1, y.2.1, y.2.2⟩ : S23)) (fun _ => rfl) Try.underlying23 (by kernel_rfl) (opensF_cons rfl (by kernel_rfl) op2 (opensF_cons rfl (by kernel_rfl) op2 (opensF_one rfl (by kernel_rfl) op2)))
end
end Go.Proofs.Ytaecdlhomihejaa.Q
