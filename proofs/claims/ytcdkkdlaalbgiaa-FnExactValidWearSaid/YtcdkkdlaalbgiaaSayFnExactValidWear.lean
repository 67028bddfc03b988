/- The one pure statement of the law FnExactValidWear: its Lean function answers true. Conditions: each argument is of its kind and within the reach. -/
import Derived.Test.YtcdkkdlaalbgiaaQ6
import Derived.Test.YtcdkkdlaalbgiaaQOpen
namespace Go.Proofs.Ytcdkkdlaalbgiaa.Q
open Go.RowKit Go.Proofs.YtcdkkdlaalbgiaaW.PrintWords
def laws_FnExactValidWear.Pure : Prop := ∀ (x0 : S35), G4 x0 → ∃ k, laws_FnExactValidWear.f k x0.f0 x0.f1 x0.f2 x0.f3 = some true
end Go.Proofs.Ytcdkkdlaalbgiaa.Q
