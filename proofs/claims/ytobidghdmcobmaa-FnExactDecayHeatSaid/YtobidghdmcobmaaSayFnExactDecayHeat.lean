/- The one pure statement of the law FnExactDecayHeat: its Lean function answers true. Conditions: each argument is of its kind and within the reach. -/
import Derived.Test.YtobidghdmcobmaaQ3
import Derived.Test.YtobidghdmcobmaaQOpen
namespace Go.Proofs.Ytobidghdmcobmaa.Q
open Go.RowKit Go.Proofs.YtobidghdmcobmaaW.PrintWords
def laws_FnExactDecayHeat.Pure : Prop := ∀ (x0 : S25), G3 x0 → ∃ k, laws_FnExactDecayHeat.f k x0.f0 x0.f1 = some true
end Go.Proofs.Ytobidghdmcobmaa.Q
