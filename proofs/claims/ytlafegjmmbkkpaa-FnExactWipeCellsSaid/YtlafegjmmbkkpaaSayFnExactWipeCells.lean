/- The one pure statement of the law FnExactWipeCells: its Lean function answers true. Conditions: each argument is of its kind and within the reach. -/
import Derived.Test.YtlafegjmmbkkpaaQ4
import Derived.Test.YtlafegjmmbkkpaaQOpen
namespace Go.Proofs.Ytlafegjmmbkkpaa.Q
open Go.RowKit Go.Proofs.YtlafegjmmbkkpaaW.PrintWords
def laws_FnExactWipeCells.Pure : Prop := ∀ (x0 : S24), G4 x0 → ∃ k, laws_FnExactWipeCells.f k x0.f0 = some true
end Go.Proofs.Ytlafegjmmbkkpaa.Q
