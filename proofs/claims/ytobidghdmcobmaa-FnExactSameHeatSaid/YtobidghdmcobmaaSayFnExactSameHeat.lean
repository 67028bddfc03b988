/- The one pure statement of the law FnExactSameHeat: its Lean function answers true. Conditions: each argument is of its kind and within the reach. -/
import Derived.Test.YtobidghdmcobmaaQ3
import Derived.Test.YtobidghdmcobmaaQOpen
namespace Go.Proofs.Ytobidghdmcobmaa.Q
open Go.RowKit Go.Proofs.YtobidghdmcobmaaW.PrintWords
def laws_FnExactSameHeat.Pure : Prop := ∀ (x0 : S25) (x1 : S25), G3 x0 → G3 x1 → ∃ k, laws_FnExactSameHeat.f k x0.f0 x0.f1 x1.f0 x1.f1 = some true
end Go.Proofs.Ytobidghdmcobmaa.Q
