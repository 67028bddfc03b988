/- The one pure statement of the law FnExactWearExcess: its Lean function answers true. Conditions: each argument is of its kind and within the reach. -/
import Derived.Test.YtcdkkdlaalbgiaaQ8
import Derived.Test.YtcdkkdlaalbgiaaQOpen
namespace Go.Proofs.Ytcdkkdlaalbgiaa.Q
open Go.RowKit Go.Proofs.YtcdkkdlaalbgiaaW.PrintWords
def laws_FnExactWearExcess.Pure : Prop := ∀ (x0 : List Int) (x1 : List Bool), G1 x0 → G3 x1 → ∃ k, laws_FnExactWearExcess.f k x0 x1 = some true
end Go.Proofs.Ytcdkkdlaalbgiaa.Q
