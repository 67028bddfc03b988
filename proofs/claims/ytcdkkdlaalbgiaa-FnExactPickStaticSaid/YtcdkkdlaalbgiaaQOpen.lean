/- What each parameter of these laws is known to be: of its kind, its numbers in range, its sizes within the reach. Conditions: the argument reads as data and weighs no more than the reach. -/
import Derived.Test.YtcdkkdlaalbgiaaQ0
import Derived.Test.YtcdkkdlaalbgiaaOpen
namespace Go.Proofs.Ytcdkkdlaalbgiaa.Q
open Go.RowKit Go.Proofs.YtcdkkdlaalbgiaaW.PrintWords Go.Proofs.Ytcdkkdlaalbgiaa.Opens
set_option linter.unusedVariables false
def G0 (x : Int) : Prop := (Lit.int .i64 x).wf = true
def G1 (_ : Bool) : Prop := True
def G2 (x : List Int) : Prop := x.length ≤ maxLen ∧ x.length * 8 ≤ 140737488351232 ∧ ∀ y ∈ x, G0 y
def G3 (x : List Bool) : Prop := x.length ≤ maxLen ∧ x.length * 1 ≤ 140737488351232 ∧ ∀ y ∈ x, G1 y
section
variable {H : Type} {enc : TypeId × Value → H} {W : World}
theorem op2 : Opens enc Try.prog W 2 (Kd.int .i64) G0 := opens_int Try.underlying2
theorem op22 : Opens enc Try.prog W 22 (Kd.slice 2 (Kd.int .i64)) G2 := opens_slice Try.underlying22 (by kernel_rfl) (by kernel_rfl) op2
theorem op4 : Opens enc Try.prog W 4 Kd.bool G1 := opens_bool Try.underlying4
theorem op27 : Opens enc Try.prog W 27 (Kd.slice 4 Kd.bool) G3 := opens_slice Try.underlying27 (by kernel_rfl) (by kernel_rfl) op4
end
end Go.Proofs.Ytcdkkdlaalbgiaa.Q
