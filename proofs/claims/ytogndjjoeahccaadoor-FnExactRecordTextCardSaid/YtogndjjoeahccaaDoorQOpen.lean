/- What each parameter of these laws is known to be: of its kind, its numbers in range, its sizes within the reach. Conditions: the argument reads as data and weighs no more than the reach. -/
import Derived.Test.YtogndjjoeahccaaDoorQ0
import Derived.Test.YtogndjjoeahccaaDoorOpen
namespace Go.Proofs.YtogndjjoeahccaaDoor.Q
open Go.RowKit Go.Proofs.YtogndjjoeahccaaDoorW.PrintWords Go.Proofs.YtogndjjoeahccaaDoor.Opens
set_option linter.unusedVariables false
def G0 (x : ByteArray) : Prop := x.size ≤ 140737488351232
def G1 (x : Int) : Prop := (Lit.int .u8 x).wf = true
def G2 (x : Int) : Prop := (Lit.int .i64 x).wf = true
def G3 (x : Int) : Prop := (Lit.int .u64 x).wf = true
def G4 (x : S28) : Prop := G0 x.f0 ∧ G2 x.f1 ∧ G2 x.f2 ∧ G0 x.f3 ∧ G0 x.f4
section
variable {H : Type} {enc : TypeId × Value → H} {W : World}
theorem op9 : Opens enc Tryd.prog W 9 Kd.string G0 := opens_string Tryd.underlying9
theorem op2 : Opens enc Tryd.prog W 2 (Kd.int .i64) G2 := opens_int Tryd.underlying2
theorem op28 : Opens enc Tryd.prog W 28 k28 G4 := opens_struct (fun y => (⟨y.1, y.2.1, y.2.2.1, y.2.2.2.1, y.2.2.2.2⟩ : S28)) (fun _ => rfl) Tryd.underlying28 (by kernel_rfl) (opensF_cons rfl (by kernel_rfl) op9 (opensF_cons rfl (by kernel_rfl) op2 (opensF_cons rfl (by kernel_rfl) op2 (opensF_cons rfl (by kernel_rfl) op9 (opensF_one rfl (by kernel_rfl) op9)))))
end
end Go.Proofs.YtogndjjoeahccaaDoor.Q
