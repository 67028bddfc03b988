/- What each parameter of these laws is known to be: of its kind, its numbers in range, its sizes within the reach. Conditions: the argument reads as data and weighs no more than the reach. -/
import Derived.Test.YtaecdlhomihejaaQ0
import Derived.Test.YtaecdlhomihejaaOpen
namespace Go.Proofs.Ytaecdlhomihejaa.Q
open Go.RowKit Go.Proofs.YtaecdlhomihejaaW.PrintWords Go.Proofs.Ytaecdlhomihejaa.Opens
set_option linter.unusedVariables false
def G0 (x : Int) : Prop := (Lit.int .i64 x).wf = true
def G1 (x : ByteArray) : Prop := x.size ≤ 140737488351232
def G2 (x : List Int) : Prop := x.length ≤ maxLen ∧ x.length * 8 ≤ 140737488351232 ∧ ∀ y ∈ x, G0 y
def G3 (_ : Bool) : Prop := True
def G4 (x : List ByteArray) : Prop := x.length ≤ maxLen ∧ x.length * 16 ≤ 140737488351232 ∧ ∀ y ∈ x, G1 y
def G5 (x : S53) : Prop := G0 x.f0 ∧ G2 x.f1 ∧ G4 x.f2
section
variable {H : Type} {enc : TypeId × Value → H} {W : World}
theorem op2 : Opens enc Try.prog W 2 (Kd.int .i64) G0 := opens_int Try.underlying2
theorem op27 : Opens enc Try.prog W 27 (Kd.slice 2 (Kd.int .i64)) G2 := opens_slice Try.underlying27 (by kernel_rfl) (by kernel_rfl) op2
theorem op9 : Opens enc Try.prog W 9 Kd.string G1 := opens_string Try.underlying9
theorem op51 : Opens enc Try.prog W 51 (Kd.slice 9 Kd.string) G4 := opens_slice Try.underlying51 (by kernel_rfl) (by kernel_rfl) op9
theorem op53 : Opens enc Try.prog W 53 k53 G5 := opens_struct (fun y => (⟨y.1, y.2.1, y.2.2⟩ : S53)) (fun _ => rfl) Try.underlying53 (by kernel_rfl) (opensF_cons rfl (by kernel_rfl) op2 (opensF_cons rfl (by kernel_rfl) op27 (opensF_one rfl (by kernel_rfl) op51)))
end
end Go.Proofs.Ytaecdlhomihejaa.Q
