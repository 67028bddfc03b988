/- The one pure statement of the law FnExactMayContain: its Lean function answers true. Conditions: each argument is of its kind and within the reach. -/
import Derived.Test.YtobidghdmcobmaaQ7
import Derived.Test.YtobidghdmcobmaaQOpen
namespace Go.Proofs.Ytobidghdmcobmaa.Q
open Go.RowKit Go.Proofs.YtobidghdmcobmaaW.PrintWords
def laws_FnExactMayContain.Pure : Prop := ∀ (x0 : ByteArray) (x1 : ByteArray), G1 x0 → G1 x1 → ∃ k, laws_FnExactMayContain.f k x0 x1 = some true
end Go.Proofs.Ytobidghdmcobmaa.Q
