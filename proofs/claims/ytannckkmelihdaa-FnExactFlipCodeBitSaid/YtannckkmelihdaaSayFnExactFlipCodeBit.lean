/- The one pure statement of the law FnExactFlipCodeBit: its Lean function answers true. Conditions: each argument is of its kind and within the reach. -/
import Derived.Test.YtannckkmelihdaaQ7
import Derived.Test.YtannckkmelihdaaQOpen
namespace Go.Proofs.Ytannckkmelihdaa.Q
open Go.RowKit Go.Proofs.YtannckkmelihdaaW.PrintWords
def laws_FnExactFlipCodeBit.Pure : Prop := ∀ (x0 : ByteArray) (x1 : Int) (x2 : Int), G0 x0 → G1 x1 → G1 x2 → ∃ k, laws_FnExactFlipCodeBit.f k x0 x1 x2 = some true
end Go.Proofs.Ytannckkmelihdaa.Q
