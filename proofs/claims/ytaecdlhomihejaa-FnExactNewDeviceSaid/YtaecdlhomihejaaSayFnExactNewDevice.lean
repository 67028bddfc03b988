/- The one pure statement of the law FnExactNewDevice: its Lean function answers true. Conditions: each argument is of its kind and within the reach. -/
import Derived.Test.YtaecdlhomihejaaXRowNewDevice
import Derived.Test.YtaecdlhomihejaaQOpen
namespace Go.Proofs.Ytaecdlhomihejaa.Q
open Go.RowKit Go.Proofs.YtaecdlhomihejaaW.PrintWords
def laws_FnExactNewDevice.Pure : Prop := ∀ (x0 : S23) (x1 : Int), G8 x0 → G0 x1 → laws_FnExactNewDevice.f x0.f0 x0.f1 x0.f2 x1 = some true
end Go.Proofs.Ytaecdlhomihejaa.Q
