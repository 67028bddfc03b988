/- The one pure statement of the law FnExactGetRecord: its Lean function answers true. Conditions: each argument is of its kind and within the reach. -/
import Derived.Test.YtolffokfddjceaaQ4
import Derived.Test.YtolffokfddjceaaQOpen
namespace Go.Proofs.Ytolffokfddjceaa.Q
open Go.RowKit Go.Proofs.YtolffokfddjceaaW.PrintWords
def laws_FnExactGetRecord.Pure : Prop := ∀ (x0 : ByteArray), G0 x0 → ∃ k, laws_FnExactGetRecord.f k x0 = some true
end Go.Proofs.Ytolffokfddjceaa.Q
