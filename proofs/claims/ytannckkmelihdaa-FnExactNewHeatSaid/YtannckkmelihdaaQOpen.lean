/- What each parameter of these laws is known to be: of its kind, its numbers in range, its sizes within the reach. Conditions: the argument reads as data and weighs no more than the reach. -/
import Derived.Test.YtannckkmelihdaaQ0
import Derived.Test.YtannckkmelihdaaOpen
namespace Go.Proofs.Ytannckkmelihdaa.Q
open Go.RowKit Go.Proofs.YtannckkmelihdaaW.PrintWords Go.Proofs.Ytannckkmelihdaa.Opens
set_option linter.unusedVariables false
def G0 (x : Int) : Prop := (Lit.int .u8 x).wf = true
def G1 (x : Int) : Prop := (Lit.int .i64 x).wf = true
def G2 (x : ByteArray) : Prop := x.size ≤ 140737488351232
def G3 (x : S28) : Prop := G1 x.f0 ∧ G1 x.f1 ∧ G1 x.f2 ∧ G2 x.f3
def G4 (x : S38) : Prop := G1 x.f0 ∧ G1 x.f1 ∧ G1 x.f2
def G5 (x : S44) : Prop := G2 x.f0 ∧ G1 x.f1 ∧ G1 x.f2 ∧ G2 x.f3 ∧ G2 x.f4
section
variable {H : Type} {enc : TypeId × Value → H} {W : World}
theorem op9 : Opens enc Try.prog W 9 Kd.string G2 := opens_string Try.underlying9
theorem op2 : Opens enc Try.prog W 2 (Kd.int .i64) G1 := opens_int Try.underlying2
theorem op28 : Opens enc Try.prog W 28 k28 G3 := opens_struct (fun y => (⟨y.1, y.2.1, y.2.2.1, y.2.2.2⟩ : S28)) (fun _ => rfl) Try.underlying28 (by kernel_rfl) (opensF_cons rfl (by kernel_rfl) op2 (opensF_cons rfl (by kernel_rfl) op2 (opensF_cons rfl (by kernel_rfl) op2 (opensF_one rfl (by kernel_rfl) op9))))
theorem op38 : Opens enc Try.prog W 38 k38 G4 := opens_struct (fun y => (⟨y.1, y.2.1, y.2.2⟩ : S38)) (fun _ => rfl) Try.underlying38 (by kernel_rfl) (opensF_cons rfl (by kernel_rfl) op2 (opensF_cons rfl (by kernel_rfl) op2 (opensF_one rfl (by kernel_rfl) op2)))
theorem op44 : Opens enc Try.prog W 44 k44 G5 := opens_struct (fun y => (⟨y.1, y.2.1, y.2.2.1, y.2.2.2.1, y.2.2.2.2⟩ : S44)) (fun _ => rfl) Try.underlying44 (by kernel_rfl) (opensF_cons rfl (by kernel_rfl) op9 (opensF_cons rfl (by kernel_rfl) op2 (opensF_cons rfl (by kernel_rfl) op2 (opensF_cons rfl (by kernel_rfl) op9 (opensF_one rfl (by kernel_rfl) op9)))))
end
end Go.Proofs.Ytannckkmelihdaa.Q
