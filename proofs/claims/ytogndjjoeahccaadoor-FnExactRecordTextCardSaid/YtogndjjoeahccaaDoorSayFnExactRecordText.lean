/- The one pure statement of the law FnExactRecordText: its Lean function answers true. Conditions: each argument is of its kind and within the reach. -/
import Derived.Test.YtogndjjoeahccaaDoorQ5
import Derived.Test.YtogndjjoeahccaaDoorQOpen
namespace Go.Proofs.YtogndjjoeahccaaDoor.Q
open Go.RowKit Go.Proofs.YtogndjjoeahccaaDoorW.PrintWords
def laws_FnExactRecordText.Pure : Prop := ∀ (x0 : S28), G4 x0 → ∃ k, laws_FnExactRecordText.f k x0.f0 x0.f1 x0.f2 x0.f3 x0.f4 = some true
end Go.Proofs.YtogndjjoeahccaaDoor.Q
