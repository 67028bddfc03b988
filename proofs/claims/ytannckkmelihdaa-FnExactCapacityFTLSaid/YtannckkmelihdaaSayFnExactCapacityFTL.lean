/- The one pure statement of the law FnExactCapacityFTL: its Lean function answers true. Conditions: each argument is of its kind and within the reach. -/
import Derived.Test.YtannckkmelihdaaQ3
import Derived.Test.YtannckkmelihdaaQOpen
namespace Go.Proofs.Ytannckkmelihdaa.Q
open Go.RowKit Go.Proofs.YtannckkmelihdaaW.PrintWords
def laws_FnExactCapacityFTL.Pure : Prop := ∀ (x0 : S38), G4 x0 → laws_FnExactCapacityFTL.f x0.f0 x0.f1 x0.f2 = some true
end Go.Proofs.Ytannckkmelihdaa.Q
