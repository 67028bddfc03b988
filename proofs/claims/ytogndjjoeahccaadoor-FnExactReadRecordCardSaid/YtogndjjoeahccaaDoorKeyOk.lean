/- The two tests of a key, as one truth value. No condition. -/
import Derived.Test.YtogndjjoeahccaaDoorQ2
import Derived.Test.YtogndjjoeahccaaDoorQ9
import Derived.Test.YtogndjjoeahccaaDoorInOk
namespace Go.Proofs.YtogndjjoeahccaaDoor.Q
open Go.RowKit Go.Proofs.YtogndjjoeahccaaDoorW.PrintWords
def okKey (s : ByteArray) : Bool := decide (1 ≤ (s.size : Int) ∧ (s.size : Int) ≤ 8)
theorem l17Key_eq (s : ByteArray) : spec_l17Key.f s = some (okKey s) := by unfold spec_l17Key.f okKey; split <;> simp [*] <;> omega
theorem implKey_eq (s : ByteArray) : impl_ValidKey.f s = some (okKey s) := by unfold impl_ValidKey.f okKey; rw [within_eq]; rfl
end Go.Proofs.YtogndjjoeahccaaDoor.Q
