/- The one pure statement of the law FnExactPickFree: its Lean function answers true. Conditions: each argument is of its kind and within the reach. -/
import Derived.Test.YtcdkkdlaalbgiaaQ1
import Derived.Test.YtcdkkdlaalbgiaaQOpen
namespace Go.Proofs.Ytcdkkdlaalbgiaa.Q
open Go.RowKit Go.Proofs.YtcdkkdlaalbgiaaW.PrintWords
def laws_FnExactPickFree.Pure : Prop := ∀ (x0 : List Int) (x1 : List Int) (x2 : Bool), G1 x0 → G1 x1 → G2 x2 → ∃ k, laws_FnExactPickFree.f k x0 x1 x2 = some true
end Go.Proofs.Ytcdkkdlaalbgiaa.Q
