/- The one pure statement of the law FnExactNewHeat: its Lean function answers true. Conditions: each argument is of its kind and within the reach. -/
import Derived.Test.YtannckkmelihdaaQ6
import Derived.Test.YtannckkmelihdaaQOpen
namespace Go.Proofs.Ytannckkmelihdaa.Q
open Go.RowKit Go.Proofs.YtannckkmelihdaaW.PrintWords
def laws_FnExactNewHeat.Pure : Prop := ∀ (x0 : Int), G1 x0 → ∃ k, laws_FnExactNewHeat.f k x0 = some true
end Go.Proofs.Ytannckkmelihdaa.Q
