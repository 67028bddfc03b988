/- The one pure statement of the law FnExactScanMem: its Lean function answers true. Conditions: each argument is of its kind and within the reach. -/
import Derived.Test.YtolffokfddjceaaQ12
import Derived.Test.YtolffokfddjceaaQOpen
namespace Go.Proofs.Ytolffokfddjceaa.Q
open Go.RowKit Go.Proofs.YtolffokfddjceaaW.PrintWords
def laws_FnExactScanMem.Pure : Prop := ∀ (x0 : List (S23)) (x1 : ByteArray) (x2 : ByteArray), G7 x0 → G0 x1 → G0 x2 → ∃ k, laws_FnExactScanMem.f k x0 x1 x2 = some true
end Go.Proofs.Ytolffokfddjceaa.Q
