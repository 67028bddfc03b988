/- The one pure statement of the law FnExactSameDevice: its Lean function answers true. Conditions: each argument is of its kind and within the reach. -/
import Derived.Test.YtaecdlhomihejaaQ12
import Derived.Test.YtaecdlhomihejaaQOpen
namespace Go.Proofs.Ytaecdlhomihejaa.Q
open Go.RowKit Go.Proofs.YtaecdlhomihejaaW.PrintWords
def laws_FnExactSameDevice.Pure : Prop := ∀ (x0 : S84) (x1 : S84), G15 x0 → G15 x1 → ∃ k, laws_FnExactSameDevice.f k x0.f0.f0.f0 x0.f0.f0.f1 x0.f0.f0.f2 x0.f0.f1 x0.f0.f2 x0.f0.f3 x0.f0.f4 x0.f0.f5 x0.f1 x1.f0.f0.f0 x1.f0.f0.f1 x1.f0.f0.f2 x1.f0.f1 x1.f0.f2 x1.f0.f3 x1.f0.f4 x1.f0.f5 x1.f1 = some true
end Go.Proofs.Ytaecdlhomihejaa.Q
