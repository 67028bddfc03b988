/- The one pure statement of the law FnExactBitsSet: its Lean function answers true. Conditions: each argument is of its kind and within the reach. -/
import Derived.Test.YtannckkmelihdaaQ3
import Derived.Test.YtannckkmelihdaaQOpen
namespace Go.Proofs.Ytannckkmelihdaa.Q
open Go.RowKit Go.Proofs.YtannckkmelihdaaW.PrintWords
def laws_FnExactBitsSet.Pure : Prop := ∀ (x0 : ByteArray), G2 x0 → ∃ k, laws_FnExactBitsSet.f k x0 = some true
end Go.Proofs.Ytannckkmelihdaa.Q
