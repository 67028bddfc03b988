/- The one pure statement of the law FnExactValidRecord: its Lean function answers true. Conditions: each argument is of its kind and within the reach. -/
import Derived.Test.YtannckkmelihdaaQ4
import Derived.Test.YtannckkmelihdaaQOpen
namespace Go.Proofs.Ytannckkmelihdaa.Q
open Go.RowKit Go.Proofs.YtannckkmelihdaaW.PrintWords
def laws_FnExactValidRecord.Pure : Prop := ∀ (x0 : S44), G5 x0 → ∃ k, laws_FnExactValidRecord.f k x0.f0 x0.f1 x0.f2 x0.f3 x0.f4 = some true
end Go.Proofs.Ytannckkmelihdaa.Q
