/- The one pure statement of the law FnExactRestartFor: its Lean function answers true. Conditions: each argument is of its kind and within the reach. -/
import Derived.Test.YtogndjjoeahccaaQ16
import Derived.Test.YtogndjjoeahccaaQOpen
namespace Go.Proofs.Ytogndjjoeahccaa.Q
open Go.RowKit Go.Proofs.YtogndjjoeahccaaW.PrintWords
def laws_FnExactRestartFor.Pure : Prop := ∀ (x0 : ByteArray) (x1 : ByteArray), G0 x0 → G0 x1 → ∃ k, laws_FnExactRestartFor.f k x0 x1 = some true
end Go.Proofs.Ytogndjjoeahccaa.Q
