/- The one pure statement of the law FnExactPickStatic: its Lean function answers true. Conditions: each argument is of its kind and within the reach. -/
import Derived.Test.YtcdkkdlaalbgiaaQ3
import Derived.Test.YtcdkkdlaalbgiaaQOpen
namespace Go.Proofs.Ytcdkkdlaalbgiaa.Q
open Go.RowKit Go.Proofs.YtcdkkdlaalbgiaaW.PrintWords
def laws_FnExactPickStatic.Pure : Prop := ∀ (x0 : List Int) (x1 : List Bool) (x2 : List Int), G2 x0 → G3 x1 → G2 x2 → ∃ k, laws_FnExactPickStatic.f k x0 x1 x2 = some true
end Go.Proofs.Ytcdkkdlaalbgiaa.Q
