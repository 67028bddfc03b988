/- What each parameter of these laws is known to be: of its kind, its numbers in range, its sizes within the reach. Conditions: the argument reads as data and weighs no more than the reach. -/
import Derived.Test.YtlafegjmmbkkpaaDoorQ0
import Derived.Test.YtlafegjmmbkkpaaDoorOpen
namespace Go.Proofs.YtlafegjmmbkkpaaDoor.Q
open Go.RowKit Go.Proofs.YtlafegjmmbkkpaaDoorW.PrintWords Go.Proofs.YtlafegjmmbkkpaaDoor.Opens
set_option linter.unusedVariables false
def G0 (x : Int) : Prop := (Lit.int .i64 x).wf = true
def G1 (x : List Int) : Prop := x.length ≤ maxLen ∧ x.length * 8 ≤ 140737488351232 ∧ ∀ y ∈ x, G0 y
def G2 (_ : Bool) : Prop := True
def G3 (x : ByteArray) : Prop := x.size ≤ 140737488351232
def G4 (x : S24) : Prop := G1 x.f0
section
variable {H : Type} {enc : TypeId × Value → H} {W : World}
theorem op2 : Opens enc Tryd.prog W 2 (Kd.int .i64) G0 := opens_int Tryd.underlying2
theorem op22 : Opens enc Tryd.prog W 22 (Kd.slice 2 (Kd.int .i64)) G1 := opens_slice Tryd.underlying22 (by kernel_rfl) (by kernel_rfl) op2
theorem op24 : Opens enc Tryd.prog W 24 k24 G4 := opens_struct (fun y => (⟨y⟩ : S24)) (fun _ => rfl) Tryd.underlying24 (by kernel_rfl) (opensF_one rfl (by kernel_rfl) op22)
theorem op9 : Opens enc Tryd.prog W 9 Kd.string G3 := opens_string Tryd.underlying9
end
end Go.Proofs.YtlafegjmmbkkpaaDoor.Q
