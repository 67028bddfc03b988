/- What each parameter of these laws is known to be: of its kind, its numbers in range, its sizes within the reach. Conditions: the argument reads as data and weighs no more than the reach. -/
import Derived.Test.YtaecdlhomihejaaQ0
import Derived.Test.YtaecdlhomihejaaOpen
namespace Go.Proofs.Ytaecdlhomihejaa.Q
open Go.RowKit Go.Proofs.YtaecdlhomihejaaW.PrintWords Go.Proofs.Ytaecdlhomihejaa.Opens
set_option linter.unusedVariables false
def G0 (x : ByteArray) : Prop := x.size ≤ 140737488351232
def G1 (x : Int) : Prop := (Lit.int .i64 x).wf = true
def G2 (_ : Bool) : Prop := True
def G3 (x : List ByteArray) : Prop := x.length ≤ maxLen ∧ x.length * 16 ≤ 140737488351232 ∧ ∀ y ∈ x, G0 y
def G5 (x : List Int) : Prop := x.length ≤ maxLen ∧ x.length * 8 ≤ 140737488351232 ∧ ∀ y ∈ x, G1 y
def G7 (x : S172) : Prop := G1 x.f0 ∧ G1 x.f1 ∧ G2 x.f2 ∧ G3 x.f3
def G8 (x : S181) : Prop := G1 x.f0 ∧ G5 x.f1 ∧ G1 x.f2 ∧ G1 x.f3 ∧ G5 x.f4 ∧ G3 x.f5
def G11 (x : S23) : Prop := G1 x.f0 ∧ G1 x.f1 ∧ G1 x.f2
def G12 (x : List (S172)) : Prop := x.length ≤ maxLen ∧ x.length * 48 ≤ 140737488351232 ∧ ∀ y ∈ x, G7 y
def G13 (x : S26) : Prop := G11 x.f0 ∧ G12 x.f1 ∧ G1 x.f2 ∧ G1 x.f3 ∧ G2 x.f4 ∧ G1 x.f5
def G14 (x : List (S181)) : Prop := x.length ≤ maxLen ∧ x.length * 96 ≤ 140737488351232 ∧ ∀ y ∈ x, G8 y
def G15 (x : S84) : Prop := G13 x.f0 ∧ G14 x.f1
section
variable {H : Type} {enc : TypeId × Value → H} {W : World}
theorem op2 : Opens enc Try.prog W 2 (Kd.int .i64) G1 := opens_int Try.underlying2
theorem op23 : Opens enc Try.prog W 23 k23 G11 := opens_struct (fun y => (⟨y.1, y.2.1, y.2.2⟩ : S23)) (fun _ => rfl) Try.underlying23 (by kernel_rfl) (opensF_cons rfl (by kernel_rfl) op2 (opensF_cons rfl (by kernel_rfl) op2 (opensF_one rfl (by kernel_rfl) op2)))
theorem op4 : Opens enc Try.prog W 4 Kd.bool G2 := opens_bool Try.underlying4
theorem op9 : Opens enc Try.prog W 9 Kd.string G0 := opens_string Try.underlying9
theorem op51 : Opens enc Try.prog W 51 (Kd.slice 9 Kd.string) G3 := opens_slice Try.underlying51 (by kernel_rfl) (by kernel_rfl) op9
theorem op172 : Opens enc Try.prog W 172 k172 G7 := opens_struct (fun y => (⟨y.1, y.2.1, y.2.2.1, y.2.2.2⟩ : S172)) (fun _ => rfl) Try.underlying172 (by kernel_rfl) (opensF_cons rfl (by kernel_rfl) op2 (opensF_cons rfl (by kernel_rfl) op2 (opensF_cons rfl (by kernel_rfl) op4 (opensF_one rfl (by kernel_rfl) op51))))
theorem op24 : Opens enc Try.prog W 24 (Kd.slice 172 k172) G12 := opens_slice Try.underlying24 (by kernel_rfl) (by kernel_rfl) op172
theorem op26 : Opens enc Try.prog W 26 k26 G13 := opens_struct (fun y => (⟨y.1, y.2.1, y.2.2.1, y.2.2.2.1, y.2.2.2.2.1, y.2.2.2.2.2⟩ : S26)) (fun _ => rfl) Try.underlying26 (by kernel_rfl) (opensF_cons rfl (by kernel_rfl) op23 (opensF_cons rfl (by kernel_rfl) op24 (opensF_cons rfl (by kernel_rfl) op2 (opensF_cons rfl (by kernel_rfl) op2 (opensF_cons rfl (by kernel_rfl) op4 (opensF_one rfl (by kernel_rfl) op2))))))
theorem op27 : Opens enc Try.prog W 27 (Kd.slice 2 (Kd.int .i64)) G5 := opens_slice Try.underlying27 (by kernel_rfl) (by kernel_rfl) op2
theorem op181 : Opens enc Try.prog W 181 k181 G8 := opens_struct (fun y => (⟨y.1, y.2.1, y.2.2.1, y.2.2.2.1, y.2.2.2.2.1, y.2.2.2.2.2⟩ : S181)) (fun _ => rfl) Try.underlying181 (by kernel_rfl) (opensF_cons rfl (by kernel_rfl) op2 (opensF_cons rfl (by kernel_rfl) op27 (opensF_cons rfl (by kernel_rfl) op2 (opensF_cons rfl (by kernel_rfl) op2 (opensF_cons rfl (by kernel_rfl) op27 (opensF_one rfl (by kernel_rfl) op51))))))
theorem op82 : Opens enc Try.prog W 82 (Kd.slice 181 k181) G14 := opens_slice Try.underlying82 (by kernel_rfl) (by kernel_rfl) op181
theorem op84 : Opens enc Try.prog W 84 k84 G15 := opens_struct (fun y => (⟨y.1, y.2⟩ : S84)) (fun _ => rfl) Try.underlying84 (by kernel_rfl) (opensF_cons rfl (by kernel_rfl) op26 (opensF_one rfl (by kernel_rfl) op82))
end
end Go.Proofs.Ytaecdlhomihejaa.Q
