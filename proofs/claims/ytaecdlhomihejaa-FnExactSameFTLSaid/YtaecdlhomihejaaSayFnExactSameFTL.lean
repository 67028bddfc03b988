/- The one pure statement of the law FnExactSameFTL: its Lean function answers true. Conditions: each argument is of its kind and within the reach. -/
import Derived.Test.YtaecdlhomihejaaQ12
import Derived.Test.YtaecdlhomihejaaQOpen
namespace Go.Proofs.Ytaecdlhomihejaa.Q
open Go.RowKit Go.Proofs.YtaecdlhomihejaaW.PrintWords
def laws_FnExactSameFTL.Pure : Prop := ∀ (x0 : S34) (x1 : S34), G14 x0 → G14 x1 → ∃ k, laws_FnExactSameFTL.f k x0.f0.f0.f0 x0.f0.f0.f1 x0.f0.f0.f2 x0.f0.f1 x0.f0.f2 x0.f0.f3 x0.f0.f4 x0.f0.f5 x0.f1.f0 x0.f1.f1 x0.f1.f2 x0.f1.f3 x0.f2.f0 x0.f2.f1 x0.f3 x0.f4 x0.f5 x0.f6 x0.f7 x1.f0.f0.f0 x1.f0.f0.f1 x1.f0.f0.f2 x1.f0.f1 x1.f0.f2 x1.f0.f3 x1.f0.f4 x1.f0.f5 x1.f1.f0 x1.f1.f1 x1.f1.f2 x1.f1.f3 x1.f2.f0 x1.f2.f1 x1.f3 x1.f4 x1.f5 x1.f6 x1.f7 = some true
end Go.Proofs.Ytaecdlhomihejaa.Q
