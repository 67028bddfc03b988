/- The one pure statement of the law FnExactValidFtlAct: its Lean function answers true. Conditions: each argument is of its kind and within the reach. -/
import Derived.Test.YtaecdlhomihejaaQ4
import Derived.Test.YtaecdlhomihejaaQOpen
namespace Go.Proofs.Ytaecdlhomihejaa.Q
open Go.RowKit Go.Proofs.YtaecdlhomihejaaW.PrintWords
def laws_FnExactValidFtlAct.Pure : Prop := ∀ (x0 : S53), G5 x0 → ∃ k, laws_FnExactValidFtlAct.f k x0.f0 x0.f1 x0.f2 = some true
end Go.Proofs.Ytaecdlhomihejaa.Q
