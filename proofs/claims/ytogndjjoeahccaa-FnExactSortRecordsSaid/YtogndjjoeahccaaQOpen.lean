/- What each parameter of these laws is known to be: of its kind, its numbers in range, its sizes within the reach. Conditions: the argument reads as data and weighs no more than the reach. -/
import Derived.Test.YtogndjjoeahccaaQ0
import Derived.Test.YtogndjjoeahccaaOpen
namespace Go.Proofs.Ytogndjjoeahccaa.Q
open Go.RowKit Go.Proofs.YtogndjjoeahccaaW.PrintWords Go.Proofs.Ytogndjjoeahccaa.Opens
set_option linter.unusedVariables false
def G0 (x : ByteArray) : Prop := x.size ≤ 140737488351232
def G1 (x : Int) : Prop := (Lit.int .i64 x).wf = true
def G2 (x : S48) : Prop := G0 x.f0 ∧ G1 x.f1 ∧ G1 x.f2 ∧ G0 x.f3 ∧ G0 x.f4
def G8 (x : List (S48)) : Prop := x.length ≤ maxLen ∧ x.length * 64 ≤ 140737488351232 ∧ ∀ y ∈ x, G2 y
section
variable {H : Type} {enc : TypeId × Value → H} {W : World}
theorem op9 : Opens enc Try.prog W 9 Kd.string G0 := opens_string Try.underlying9
theorem op2 : Opens enc Try.prog W 2 (Kd.int .i64) G1 := opens_int Try.underlying2
theorem op48 : Opens enc Try.prog W 48 k48 G2 := opens_struct (fun y => (⟨y.1, y.2.1, y.2.2.1, y.2.2.2.1, y.2.2.2.2⟩ : S48)) (fun _ => rfl) Try.underlying48 (by kernel_rfl) (opensF_cons rfl (by kernel_rfl) op9 (opensF_cons rfl (by kernel_rfl) op2 (opensF_cons rfl (by kernel_rfl) op2 (opensF_cons rfl (by kernel_rfl) op9 (opensF_one rfl (by kernel_rfl) op9)))))
theorem op22 : Opens enc Try.prog W 22 (Kd.slice 48 k48) G8 := opens_slice Try.underlying22 (by kernel_rfl) (by kernel_rfl) op48
end
end Go.Proofs.Ytogndjjoeahccaa.Q
