/- What each parameter of these laws is known to be: of its kind, its numbers in range, its sizes within the reach. Conditions: the argument reads as data and weighs no more than the reach. -/
import Derived.Test.YtobidghdmcobmaaQ0
import Derived.Test.YtobidghdmcobmaaOpen
namespace Go.Proofs.Ytobidghdmcobmaa.Q
open Go.RowKit Go.Proofs.YtobidghdmcobmaaW.PrintWords Go.Proofs.Ytobidghdmcobmaa.Opens
set_option linter.unusedVariables false
def G0 (x : Int) : Prop := (Lit.int .i64 x).wf = true
def G1 (x : List Int) : Prop := x.length ≤ maxLen ∧ x.length * 8 ≤ 140737488351232 ∧ ∀ y ∈ x, G0 y
def G2 (x : S28) : Prop := G1 x.f0 ∧ G0 x.f1
def G3 (_ : Bool) : Prop := True
def G4 (x : S25) : Prop := G1 x.f0 ∧ G0 x.f1
section
variable {H : Type} {enc : TypeId × Value → H} {W : World}
theorem op2 : Opens enc Try.prog W 2 (Kd.int .i64) G0 := opens_int Try.underlying2
theorem op23 : Opens enc Try.prog W 23 (Kd.slice 2 (Kd.int .i64)) G1 := opens_slice Try.underlying23 (by kernel_rfl) (by kernel_rfl) op2
theorem op25 : Opens enc Try.prog W 25 k25 G4 := opens_struct (fun y => (⟨y.1, y.2⟩ : S25)) (fun _ => rfl) Try.underlying25 (by kernel_rfl) (opensF_cons rfl (by kernel_rfl) op23 (opensF_one rfl (by kernel_rfl) op2))
end
end Go.Proofs.Ytobidghdmcobmaa.Q
