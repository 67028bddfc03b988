/- The one pure statement of the law FnExactLessRecord: its Lean function answers true. Conditions: each argument is of its kind and within the reach. -/
import Derived.Test.YtolffokfddjceaaQ2
import Derived.Test.YtolffokfddjceaaQOpen
namespace Go.Proofs.Ytolffokfddjceaa.Q
open Go.RowKit Go.Proofs.YtolffokfddjceaaW.PrintWords
def laws_FnExactLessRecord.Pure : Prop := ∀ (x0 : S23) (x1 : S23), G4 x0 → G4 x1 → ∃ k, laws_FnExactLessRecord.f k x0.f0 x0.f1 x0.f2 x0.f3 x0.f4 x1.f0 x1.f1 x1.f2 x1.f3 x1.f4 = some true
end Go.Proofs.Ytolffokfddjceaa.Q
