/- The one pure statement of the law FnExactNoteWrite: its Lean function answers true. Conditions: each argument is of its kind and within the reach. -/
import Derived.Test.YtobidghdmcobmaaQ6
import Derived.Test.YtobidghdmcobmaaQOpen
namespace Go.Proofs.Ytobidghdmcobmaa.Q
open Go.RowKit Go.Proofs.YtobidghdmcobmaaW.PrintWords
def laws_FnExactNoteWrite.Pure : Prop := ∀ (x0 : S25) (x1 : Int), G4 x0 → G0 x1 → ∃ k, laws_FnExactNoteWrite.f k x0.f0 x0.f1 x1 = some true
end Go.Proofs.Ytobidghdmcobmaa.Q
