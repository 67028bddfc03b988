/- The one pure statement of the law FnExactSharedPrefix: its Lean function answers true. Conditions: each argument is of its kind and within the reach. -/
import Derived.Test.YtannckkmelihdaaQ1
import Derived.Test.YtannckkmelihdaaQOpen
namespace Go.Proofs.Ytannckkmelihdaa.Q
open Go.RowKit Go.Proofs.YtannckkmelihdaaW.PrintWords
def laws_FnExactSharedPrefix.Pure : Prop := ∀ (x0 : ByteArray) (x1 : ByteArray), G2 x0 → G2 x1 → ∃ k, laws_FnExactSharedPrefix.f k x0 x1 = some true
end Go.Proofs.Ytannckkmelihdaa.Q
