/- The one pure statement of the law FnExactValidWipe: its Lean function answers true. Conditions: each argument is of its kind and within the reach. -/
import Derived.Test.YtaecdlhomihejaaQ9
import Derived.Test.YtaecdlhomihejaaQOpen
namespace Go.Proofs.Ytaecdlhomihejaa.Q
open Go.RowKit Go.Proofs.YtaecdlhomihejaaW.PrintWords
def laws_FnExactValidWipe.Pure : Prop := ∀ (x0 : S26) (x1 : S66), G10 x0 → G11 x1 → ∃ k, laws_FnExactValidWipe.f k x0.f0.f0 x0.f0.f1 x0.f0.f2 x0.f1 x0.f2 x0.f3 x0.f4 x0.f5 x1.f0 x1.f1 = some true
end Go.Proofs.Ytaecdlhomihejaa.Q
