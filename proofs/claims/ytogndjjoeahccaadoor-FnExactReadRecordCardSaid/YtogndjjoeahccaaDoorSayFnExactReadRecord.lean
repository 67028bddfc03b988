/- The one pure statement of the law FnExactReadRecord: its Lean function answers true. Conditions: each argument is of its kind and within the reach. -/
import Derived.Test.YtogndjjoeahccaaDoorQ14
import Derived.Test.YtogndjjoeahccaaDoorQOpen
namespace Go.Proofs.YtogndjjoeahccaaDoor.Q
open Go.RowKit Go.Proofs.YtogndjjoeahccaaDoorW.PrintWords
def laws_FnExactReadRecord.Pure : Prop := ∀ (x0 : ByteArray), G0 x0 → ∃ k, laws_FnExactReadRecord.f k x0 = some true
end Go.Proofs.YtogndjjoeahccaaDoor.Q
