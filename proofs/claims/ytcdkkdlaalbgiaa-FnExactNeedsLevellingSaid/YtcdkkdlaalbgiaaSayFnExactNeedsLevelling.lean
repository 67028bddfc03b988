/- The one pure statement of the law FnExactNeedsLevelling: its Lean function answers true. Conditions: each argument is of its kind and within the reach. -/
import Derived.Test.YtcdkkdlaalbgiaaQ7
import Derived.Test.YtcdkkdlaalbgiaaQOpen
namespace Go.Proofs.Ytcdkkdlaalbgiaa.Q
open Go.RowKit Go.Proofs.YtcdkkdlaalbgiaaW.PrintWords
def laws_FnExactNeedsLevelling.Pure : Prop := ∀ (x0 : List Int) (x1 : List Bool) (x2 : Int), G1 x0 → G3 x1 → G0 x2 → ∃ k, laws_FnExactNeedsLevelling.f k x0 x1 x2 = some true
end Go.Proofs.Ytcdkkdlaalbgiaa.Q
