/- The one pure statement of the law FnExactAffects: its Lean function answers true. Conditions: each argument is of its kind and within the reach. -/
import Derived.Test.YtolffokfddjceaaQ4
import Derived.Test.YtolffokfddjceaaQOpen
namespace Go.Proofs.Ytolffokfddjceaa.Q
open Go.RowKit Go.Proofs.YtolffokfddjceaaW.PrintWords
def laws_FnExactAffects.Pure : Prop := ∀ (x0 : S23) (x1 : ByteArray), G4 x0 → G1 x1 → ∃ k, laws_FnExactAffects.f k x0.f0 x0.f1 x0.f2 x0.f3 x0.f4 x1 = some true
end Go.Proofs.Ytolffokfddjceaa.Q
