/- The one pure statement of the law FnExactNewFTL: its Lean function answers true. Conditions: each argument is of its kind and within the reach. -/
import Derived.Test.YtaecdlhomihejaaXRowNewFTL
import Derived.Test.YtaecdlhomihejaaQOpen
namespace Go.Proofs.Ytaecdlhomihejaa.Q
open Go.RowKit Go.Proofs.YtaecdlhomihejaaW.PrintWords
def laws_FnExactNewFTL.Pure : Prop := ∀ (x0 : S23) (x1 : Int) (x2 : Int) (x3 : Int), G9 x0 → G0 x1 → G0 x2 → G0 x3 → laws_FnExactNewFTL.f x0.f0 x0.f1 x0.f2 x1 x2 x3 = some true
end Go.Proofs.Ytaecdlhomihejaa.Q
