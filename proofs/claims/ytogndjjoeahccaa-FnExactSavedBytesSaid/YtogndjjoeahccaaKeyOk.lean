/- The two tests of a key, as one truth value. No condition. -/
import Derived.Test.YtogndjjoeahccaaQ1
import Derived.Test.YtogndjjoeahccaaQ6
import Derived.Test.YtogndjjoeahccaaNum
namespace Go.Proofs.Ytogndjjoeahccaa.Q
open Go.RowKit Go.Proofs.YtogndjjoeahccaaW.PrintWords
theorem l00In_eq (a b c : Int) : spec_l00In.f a b c = some (decide (b ≤ a ∧ a ≤ c)) := by unfold spec_l00In.f; split <;> simp [*] <;> omega
theorem within_eq (a b c : Int) : impl_within.f a b c = some (decide (b ≤ a ∧ a ≤ c)) := by unfold impl_within.f; split <;> simp [*] <;> omega
end Go.Proofs.Ytogndjjoeahccaa.Q
namespace Go.Proofs.Ytogndjjoeahccaa.Q
open Go.RowKit Go.Proofs.YtogndjjoeahccaaW.PrintWords
def okKey (s : ByteArray) : Bool := decide (1 ≤ (s.size : Int) ∧ (s.size : Int) ≤ 8)
theorem l17Key_eq (s : ByteArray) : spec_l17Key.f s = some (okKey s) := by unfold spec_l17Key.f okKey; split <;> simp [*] <;> omega
theorem implKey_eq (s : ByteArray) : impl_ValidKey.f s = some (okKey s) := by unfold impl_ValidKey.f okKey; rw [within_eq]; rfl
end Go.Proofs.Ytogndjjoeahccaa.Q
