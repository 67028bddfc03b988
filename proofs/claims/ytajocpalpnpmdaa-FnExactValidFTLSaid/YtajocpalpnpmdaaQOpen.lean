/- What each parameter of these laws is known to be: of its kind, its numbers in range, its sizes within the reach. Conditions: the argument reads as data and weighs no more than the reach. -/
import Derived.Test.YtajocpalpnpmdaaQ0
import Derived.Test.YtajocpalpnpmdaaOpen
namespace Go.Proofs.Ytajocpalpnpmdaa.Q
open Go.RowKit Go.Proofs.YtajocpalpnpmdaaW.PrintWords Go.Proofs.Ytajocpalpnpmdaa.Opens
set_option linter.unusedVariables false
def G0 (x : ByteArray) : Prop := x.size ≤ 140737488351232
def G1 (x : Int) : Prop := (Lit.int .i64 x).wf = true
def G2 (_ : Bool) : Prop := True
def G3 (x : List ByteArray) : Prop := x.length ≤ maxLen ∧ x.length * 16 ≤ 140737488351232 ∧ ∀ y ∈ x, G0 y
def G4 (x : S103) : Prop := G1 x.f0 ∧ G1 x.f1 ∧ G2 x.f2 ∧ G3 x.f3
def G7 (x : List Int) : Prop := x.length ≤ maxLen ∧ x.length * 8 ≤ 140737488351232 ∧ ∀ y ∈ x, G1 y
def G8 (x : List Bool) : Prop := x.length ≤ maxLen ∧ x.length * 1 ≤ 140737488351232 ∧ ∀ y ∈ x, G2 y
def G9 (x : S23) : Prop := G1 x.f0 ∧ G1 x.f1 ∧ G1 x.f2
def G10 (x : List (S103)) : Prop := x.length ≤ maxLen ∧ x.length * 48 ≤ 140737488351232 ∧ ∀ y ∈ x, G4 y
def G11 (x : S26) : Prop := G9 x.f0 ∧ G10 x.f1 ∧ G1 x.f2 ∧ G1 x.f3 ∧ G2 x.f4 ∧ G1 x.f5
def G12 (x : S30) : Prop := G1 x.f0 ∧ G1 x.f1 ∧ G7 x.f2 ∧ G8 x.f3
def G13 (x : S32) : Prop := G7 x.f0 ∧ G1 x.f1
def G14 (x : S34) : Prop := G11 x.f0 ∧ G12 x.f1 ∧ G13 x.f2 ∧ G1 x.f3 ∧ G7 x.f4 ∧ G7 x.f5 ∧ G1 x.f6 ∧ G1 x.f7
section
variable {H : Type} {enc : TypeId × Value → H} {W : World}
theorem op2 : Opens enc Try.prog W 2 (Kd.int .i64) G1 := opens_int Try.underlying2
theorem op23 : Opens enc Try.prog W 23 k23 G9 := opens_struct (fun y => (⟨y.1, y.2.1, y.2.2⟩ : S23)) (fun _ => rfl) Try.underlying23 (by kernel_rfl) (opensF_cons rfl (by kernel_rfl) op2 (opensF_cons rfl (by kernel_rfl) op2 (opensF_one rfl (by kernel_rfl) op2)))
theorem op4 : Opens enc Try.prog W 4 Kd.bool G2 := opens_bool Try.underlying4
theorem op9 : Opens enc Try.prog W 9 Kd.string G0 := opens_string Try.underlying9
theorem op90 : Opens enc Try.prog W 90 (Kd.slice 9 Kd.string) G3 := opens_slice Try.underlying90 (by kernel_rfl) (by kernel_rfl) op9
theorem op103 : Opens enc Try.prog W 103 k103 G4 := opens_struct (fun y => (⟨y.1, y.2.1, y.2.2.1, y.2.2.2⟩ : S103)) (fun _ => rfl) Try.underlying103 (by kernel_rfl) (opensF_cons rfl (by kernel_rfl) op2 (opensF_cons rfl (by kernel_rfl) op2 (opensF_cons rfl (by kernel_rfl) op4 (opensF_one rfl (by kernel_rfl) op90))))
theorem op24 : Opens enc Try.prog W 24 (Kd.slice 103 k103) G10 := opens_slice Try.underlying24 (by kernel_rfl) (by kernel_rfl) op103
theorem op26 : Opens enc Try.prog W 26 k26 G11 := opens_struct (fun y => (⟨y.1, y.2.1, y.2.2.1, y.2.2.2.1, y.2.2.2.2.1, y.2.2.2.2.2⟩ : S26)) (fun _ => rfl) Try.underlying26 (by kernel_rfl) (opensF_cons rfl (by kernel_rfl) op23 (opensF_cons rfl (by kernel_rfl) op24 (opensF_cons rfl (by kernel_rfl) op2 (opensF_cons rfl (by kernel_rfl) op2 (opensF_cons rfl (by kernel_rfl) op4 (opensF_one rfl (by kernel_rfl) op2))))))
theorem op27 : Opens enc Try.prog W 27 (Kd.slice 2 (Kd.int .i64)) G7 := opens_slice Try.underlying27 (by kernel_rfl) (by kernel_rfl) op2
theorem op28 : Opens enc Try.prog W 28 (Kd.slice 4 Kd.bool) G8 := opens_slice Try.underlying28 (by kernel_rfl) (by kernel_rfl) op4
theorem op30 : Opens enc Try.prog W 30 k30 G12 := opens_struct (fun y => (⟨y.1, y.2.1, y.2.2.1, y.2.2.2⟩ : S30)) (fun _ => rfl) Try.underlying30 (by kernel_rfl) (opensF_cons rfl (by kernel_rfl) op2 (opensF_cons rfl (by kernel_rfl) op2 (opensF_cons rfl (by kernel_rfl) op27 (opensF_one rfl (by kernel_rfl) op28))))
theorem op32 : Opens enc Try.prog W 32 k32 G13 := opens_struct (fun y => (⟨y.1, y.2⟩ : S32)) (fun _ => rfl) Try.underlying32 (by kernel_rfl) (opensF_cons rfl (by kernel_rfl) op27 (opensF_one rfl (by kernel_rfl) op2))
theorem op34 : Opens enc Try.prog W 34 k34 G14 := opens_struct (fun y => (⟨y.1, y.2.1, y.2.2.1, y.2.2.2.1, y.2.2.2.2.1, y.2.2.2.2.2.1, y.2.2.2.2.2.2.1, y.2.2.2.2.2.2.2⟩ : S34)) (fun _ => rfl) Try.underlying34 (by kernel_rfl) (opensF_cons rfl (by kernel_rfl) op26 (opensF_cons rfl (by kernel_rfl) op30 (opensF_cons rfl (by kernel_rfl) op32 (opensF_cons rfl (by kernel_rfl) op2 (opensF_cons rfl (by kernel_rfl) op27 (opensF_cons rfl (by kernel_rfl) op27 (opensF_cons rfl (by kernel_rfl) op2 (opensF_one rfl (by kernel_rfl) op2))))))))
end
end Go.Proofs.Ytajocpalpnpmdaa.Q
