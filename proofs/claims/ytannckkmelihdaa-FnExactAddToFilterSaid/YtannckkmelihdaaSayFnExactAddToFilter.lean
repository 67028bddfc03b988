/- The one pure statement of the law FnExactAddToFilter: its Lean function answers true. Conditions: each argument is of its kind and within the reach. -/
import Derived.Test.YtannckkmelihdaaQ9
import Derived.Test.YtannckkmelihdaaQOpen
namespace Go.Proofs.Ytannckkmelihdaa.Q
open Go.RowKit Go.Proofs.YtannckkmelihdaaW.PrintWords
def laws_FnExactAddToFilter.Pure : Prop := ∀ (x0 : ByteArray) (x1 : ByteArray), G0 x0 → G0 x1 → ∃ k, laws_FnExactAddToFilter.f k x0 x1 = some true
end Go.Proofs.Ytannckkmelihdaa.Q
