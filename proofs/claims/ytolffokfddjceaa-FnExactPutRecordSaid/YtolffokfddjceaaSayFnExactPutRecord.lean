/- The one pure statement of the law FnExactPutRecord: its Lean function answers true. Conditions: each argument is of its kind and within the reach. -/
import Derived.Test.YtolffokfddjceaaQ5
import Derived.Test.YtolffokfddjceaaQOpen
namespace Go.Proofs.Ytolffokfddjceaa.Q
open Go.RowKit Go.Proofs.YtolffokfddjceaaW.PrintWords
def laws_FnExactPutRecord.Pure : Prop := ∀ (x0 : S23), G4 x0 → ∃ k, laws_FnExactPutRecord.f k x0.f0 x0.f1 x0.f2 x0.f3 x0.f4 = some true
end Go.Proofs.Ytolffokfddjceaa.Q
