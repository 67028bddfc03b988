/- What each parameter of these laws is known to be: of its kind, its numbers in range, its sizes within the reach. Conditions: the argument reads as data and weighs no more than the reach. -/
import Derived.Test.YtdjbphffibcbeaaQ0
import Derived.Test.YtdjbphffibcbeaaOpen
namespace Go.Proofs.Ytdjbphffibcbeaa.Q
open Go.RowKit Go.Proofs.YtdjbphffibcbeaaW.PrintWords Go.Proofs.Ytdjbphffibcbeaa.Opens
set_option linter.unusedVariables false
def G0 (x : ByteArray) : Prop := x.size ≤ 140737488351232
def G1 (x : Int) : Prop := (Lit.int .i64 x).wf = true
def G2 (_ : Bool) : Prop := True
def G3 (x : List ByteArray) : Prop := x.length ≤ maxLen ∧ x.length * 16 ≤ 140737488351232 ∧ ∀ y ∈ x, G0 y
def G4 (x : S83) : Prop := G1 x.f0 ∧ G1 x.f1 ∧ G2 x.f2 ∧ G3 x.f3
def G5 (x : List Int) : Prop := x.length ≤ maxLen ∧ x.length * 8 ≤ 140737488351232 ∧ ∀ y ∈ x, G1 y
def G6 (x : S64) : Prop := G1 x.f0 ∧ G5 x.f1 ∧ G1 x.f2 ∧ G1 x.f3 ∧ G5 x.f4 ∧ G3 x.f5
def G11 (x : S23) : Prop := G1 x.f0 ∧ G1 x.f1 ∧ G1 x.f2
def G12 (x : List (S83)) : Prop := x.length ≤ maxLen ∧ x.length * 48 ≤ 140737488351232 ∧ ∀ y ∈ x, G4 y
def G13 (x : S26) : Prop := G11 x.f0 ∧ G12 x.f1 ∧ G1 x.f2 ∧ G1 x.f3 ∧ G2 x.f4 ∧ G1 x.f5
def G14 (x : List (S64)) : Prop := x.length ≤ maxLen ∧ x.length * 96 ≤ 140737488351232 ∧ ∀ y ∈ x, G6 y
def G15 (x : S29) : Prop := G13 x.f0 ∧ G14 x.f1
section
variable {H : Type} {enc : TypeId × Value → H} {W : World}
theorem op2 : Opens enc Try.prog W 2 (Kd.int .i64) G1 := opens_int Try.underlying2
theorem op23 : Opens enc Try.prog W 23 k23 G11 := opens_struct (fun y => (⟨y.1, y.2.1, y.2.2⟩ : S23)) (fun _ => rfl) Try.underlying23 (by kernel_rfl) (opensF_cons rfl (by kernel_rfl) op2 (opensF_cons rfl (by kernel_rfl) op2 (opensF_one rfl (by kernel_rfl) op2)))
theorem op4 : Opens enc Try.prog W 4 Kd.bool G2 := opens_bool Try.underlying4
theorem op9 : Opens enc Try.prog W 9 Kd.string G0 := opens_string Try.underlying9
theorem op48 : Opens enc Try.prog W 48 (Kd.slice 9 Kd.string) G3 := opens_slice Try.underlying48 (by kernel_rfl) (by kernel_rfl) op9
theorem op83 : Opens enc Try.prog W 83 k83 G4 := opens_struct (fun y => (⟨y.1, y.2.1, y.2.2.1, y.2.2.2⟩ : S83)) (fun _ => rfl) Try.underlying83 (by kernel_rfl) (opensF_cons rfl (by kernel_rfl) op2 (opensF_cons rfl (by kernel_rfl) op2 (opensF_cons rfl (by kernel_rfl) op4 (opensF_one rfl (by kernel_rfl) op48))))
theorem op24 : Opens enc Try.prog W 24 (Kd.slice 83 k83) G12 := opens_slice Try.underlying24 (by kernel_rfl) (by kernel_rfl) op83
theorem op26 : Opens enc Try.prog W 26 k26 G13 := opens_struct (fun y => (⟨y.1, y.2.1, y.2.2.1, y.2.2.2.1, y.2.2.2.2.1, y.2.2.2.2.2⟩ : S26)) (fun _ => rfl) Try.underlying26 (by kernel_rfl) (opensF_cons rfl (by kernel_rfl) op23 (opensF_cons rfl (by kernel_rfl) op24 (opensF_cons rfl (by kernel_rfl) op2 (opensF_cons rfl (by kernel_rfl) op2 (opensF_cons rfl (by kernel_rfl) op4 (opensF_one rfl (by kernel_rfl) op2))))))
theorem op47 : Opens enc Try.prog W 47 (Kd.slice 2 (Kd.int .i64)) G5 := opens_slice Try.underlying47 (by kernel_rfl) (by kernel_rfl) op2
theorem op64 : Opens enc Try.prog W 64 k64 G6 := opens_struct (fun y => (⟨y.1, y.2.1, y.2.2.1, y.2.2.2.1, y.2.2.2.2.1, y.2.2.2.2.2⟩ : S64)) (fun _ => rfl) Try.underlying64 (by kernel_rfl) (opensF_cons rfl (by kernel_rfl) op2 (opensF_cons rfl (by kernel_rfl) op47 (opensF_cons rfl (by kernel_rfl) op2 (opensF_cons rfl (by kernel_rfl) op2 (opensF_cons rfl (by kernel_rfl) op47 (opensF_one rfl (by kernel_rfl) op48))))))
theorem op27 : Opens enc Try.prog W 27 (Kd.slice 64 k64) G14 := opens_slice Try.underlying27 (by kernel_rfl) (by kernel_rfl) op64
theorem op29 : Opens enc Try.prog W 29 k29 G15 := opens_struct (fun y => (⟨y.1, y.2⟩ : S29)) (fun _ => rfl) Try.underlying29 (by kernel_rfl) (opensF_cons rfl (by kernel_rfl) op26 (opensF_one rfl (by kernel_rfl) op27))
end
end Go.Proofs.Ytdjbphffibcbeaa.Q
