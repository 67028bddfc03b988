/- The one pure statement of the law FnExactKeyHash: its Lean function answers true. Conditions: each argument is of its kind and within the reach. -/
import Derived.Test.YtannckkmelihdaaQ1
import Derived.Test.YtannckkmelihdaaQOpen
namespace Go.Proofs.Ytannckkmelihdaa.Q
open Go.RowKit Go.Proofs.YtannckkmelihdaaW.PrintWords
def laws_FnExactKeyHash.Pure : Prop := ∀ (x0 : ByteArray) (x1 : Int), G2 x0 → G1 x1 → ∃ k, laws_FnExactKeyHash.f k x0 x1 = some true
end Go.Proofs.Ytannckkmelihdaa.Q
