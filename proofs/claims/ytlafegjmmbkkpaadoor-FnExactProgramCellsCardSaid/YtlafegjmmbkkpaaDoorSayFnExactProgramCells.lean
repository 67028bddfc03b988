/- The one pure statement of the law FnExactProgramCells: its Lean function answers true. Conditions: each argument is of its kind and within the reach. -/
import Derived.Test.YtlafegjmmbkkpaaDoorQ5
import Derived.Test.YtlafegjmmbkkpaaDoorQOpen
namespace Go.Proofs.YtlafegjmmbkkpaaDoor.Q
open Go.RowKit Go.Proofs.YtlafegjmmbkkpaaDoorW.PrintWords
def laws_FnExactProgramCells.Pure : Prop := ∀ (x0 : S24) (x1 : ByteArray), G4 x0 → G3 x1 → ∃ k, laws_FnExactProgramCells.f k x0.f0 x1 = some true
end Go.Proofs.YtlafegjmmbkkpaaDoor.Q
