/- The contract of math/bits.OnesCount8 at a byte. Condition: the number is a byte. -/
import Derived.Test.YtannckkmelihdaaQ0
import Derived.Lib.BitFns
namespace Go.Proofs.Ytannckkmelihdaa.Q
open Go.RowKit Go.Proofs.YtannckkmelihdaaW.PrintWords
set_option linter.unusedVariables false
def bits_OnesCount8.f (a0 : Int) : Option Int := if 0 ≤ a0 ∧ a0 ≤ 255 then some ((Lib.onesCount a0.toNat : Nat) : Int) else none
theorem ones_wrap (a0 : Int) (h0 : 0 ≤ a0) (h1 : a0 ≤ 255) : wrap64 (Lib.pop8 a0) = ((Lib.onesCount a0.toNat : Nat) : Int) := by
  unfold wrap64
  exact Lib.pop8_int a0 h0 h1
set_option maxHeartbeats 4000000 in
set_option maxRecDepth 100000 in
theorem bits_OnesCount8.calls (a0 : Int) (r : Int) (w : World) (h : bits_OnesCount8.f a0 = some r) :
    Calls Try.prog 70 #[.int .u8 a0] w fun e w' => e = .returned (.int .i64 r) ∧ Drawn0 w w' := by
  unfold bits_OnesCount8.f at h
  by_cases hc : 0 ≤ a0 ∧ a0 ≤ 255
  · rw [if_pos hc] at h
    obtain rfl := Option.some.inj h
    obtain ⟨h0, h1⟩ := hc
    have e := ones_wrap a0 h0 h1
    generalize ((Lib.onesCount a0.toNat : Nat) : Int) = n at e ⊢
    subst e
    go_enter Try.func70, Try.ntmps70
    go_wp2
    go_ret
    exact ⟨rfl, Drawn0.refl _⟩
  · rw [if_neg hc] at h
    cases h
end Go.Proofs.Ytannckkmelihdaa.Q
