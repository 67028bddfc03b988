/- The one pure statement of the law FnExactErasePasses: its Lean function answers true. Conditions: each argument is of its kind and within the reach. -/
import Derived.Test.YtlafegjmmbkkpaaQ8
import Derived.Test.YtlafegjmmbkkpaaQOpen
namespace Go.Proofs.Ytlafegjmmbkkpaa.Q
open Go.RowKit Go.Proofs.YtlafegjmmbkkpaaW.PrintWords
def laws_FnExactErasePasses.Pure : Prop := ∀ (x0 : S24) (x1 : Int), G4 x0 → G0 x1 → ∃ k, laws_FnExactErasePasses.f k x0.f0 x1 = some true
end Go.Proofs.Ytlafegjmmbkkpaa.Q
