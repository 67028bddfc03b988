/- What each parameter of these laws is known to be: of its kind, its numbers in range, its sizes within the reach. Conditions: the argument reads as data and weighs no more than the reach. -/
import Derived.Test.YtlafegjmmbkkpaaQ0
import Derived.Test.YtlafegjmmbkkpaaOpen
namespace Go.Proofs.Ytlafegjmmbkkpaa.Q
open Go.RowKit Go.Proofs.YtlafegjmmbkkpaaW.PrintWords Go.Proofs.Ytlafegjmmbkkpaa.Opens
set_option linter.unusedVariables false
def G0 (x : Int) : Prop := (Lit.int .i64 x).wf = true
def G1 (x : List Int) : Prop := x.length ≤ maxLen ∧ x.length * 8 ≤ 140737488351232 ∧ ∀ y ∈ x, G0 y
def G2 (_ : Bool) : Prop := True
def G3 (x : ByteArray) : Prop := x.size ≤ 140737488351232
def G4 (x : S24) : Prop := G1 x.f0
section
variable {H : Type} {enc : TypeId × Value → H} {W : World}
theorem op2 : Opens enc Try.prog W 2 (Kd.int .i64) G0 := opens_int Try.underlying2
theorem op22 : Opens enc Try.prog W 22 (Kd.slice 2 (Kd.int .i64)) G1 := opens_slice Try.underlying22 (by kernel_rfl) (by kernel_rfl) op2
theorem op24 : Opens enc Try.prog W 24 k24 G4 := opens_struct (fun y => (⟨y⟩ : S24)) (fun _ => rfl) Try.underlying24 (by kernel_rfl) (opensF_one rfl (by kernel_rfl) op22)
end
end Go.Proofs.Ytlafegjmmbkkpaa.Q
