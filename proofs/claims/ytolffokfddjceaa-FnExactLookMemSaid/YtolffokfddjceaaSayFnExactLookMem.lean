/- The one pure statement of the law FnExactLookMem: its Lean function answers true. Conditions: each argument is of its kind and within the reach. -/
import Derived.Test.YtolffokfddjceaaQ8
import Derived.Test.YtolffokfddjceaaQOpen
namespace Go.Proofs.Ytolffokfddjceaa.Q
open Go.RowKit Go.Proofs.YtolffokfddjceaaW.PrintWords
def laws_FnExactLookMem.Pure : Prop := ∀ (x0 : List (S23)) (x1 : ByteArray) (x2 : Int), G6 x0 → G0 x1 → G1 x2 → ∃ k, laws_FnExactLookMem.f k x0 x1 x2 = some true
end Go.Proofs.Ytolffokfddjceaa.Q
