/- The one pure statement of the law FnExactSavedBytes: its Lean function answers true. Conditions: each argument is of its kind and within the reach. -/
import Derived.Test.YtogndjjoeahccaaQ14
import Derived.Test.YtogndjjoeahccaaQOpen
namespace Go.Proofs.Ytogndjjoeahccaa.Q
open Go.RowKit Go.Proofs.YtogndjjoeahccaaW.PrintWords
def laws_FnExactSavedBytes.Pure : Prop := ∀ (x0 : ByteArray), G0 x0 → ∃ k, laws_FnExactSavedBytes.f k x0 = some true
end Go.Proofs.Ytogndjjoeahccaa.Q
