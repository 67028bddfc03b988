/- The keys of a valid run do not fall. Conditions: those before each theorem. -/
import Derived.Test.YtogndjjoeahccaaXRun
import Derived.Test.YtogndjjoeahccaaStrCmp
namespace Go.Proofs.Ytogndjjoeahccaa.Q
open Go.RowKit Go.Proofs.YtogndjjoeahccaaW.PrintWords
set_option linter.unusedVariables false
theorem blk_asym (a b : List UInt8) (h : a = b ∨ Op.bytesLess a b = true) : Op.bytesLess b a = false := by
  rw [← StrCmp.bytesLess_total a b]
  rcases h with h | h
  · have : (a == b) = true := beq_iff_eq.2 h
    rw [this, Bool.or_true]; rfl
  · rw [h]; rfl
end Go.Proofs.Ytogndjjoeahccaa.Q
