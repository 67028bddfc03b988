/- The one pure statement of the law FnExactValidFragment: its Lean function answers true. Conditions: each argument is of its kind and within the reach. -/
import Derived.Test.YtannckkmelihdaaQ2
import Derived.Test.YtannckkmelihdaaQOpen
namespace Go.Proofs.Ytannckkmelihdaa.Q
open Go.RowKit Go.Proofs.YtannckkmelihdaaW.PrintWords
def laws_FnExactValidFragment.Pure : Prop := ∀ (x0 : S28), G3 x0 → ∃ k, laws_FnExactValidFragment.f k x0.f0 x0.f1 x0.f2 x0.f3 = some true
end Go.Proofs.Ytannckkmelihdaa.Q
