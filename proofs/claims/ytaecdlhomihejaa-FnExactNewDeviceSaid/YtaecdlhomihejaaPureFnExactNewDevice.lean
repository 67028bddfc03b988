/- The law FnExactNewDevice, as a statement over numbers and lists. No condition. -/
import Derived.Test.YtaecdlhomihejaaSayFnExactNewDevice
namespace Go.Proofs.Ytaecdlhomihejaa.Pure
open Go.RowKit Go.Proofs.Ytaecdlhomihejaa.Q Go.Proofs.YtaecdlhomihejaaW.PrintWords
theorem FnExactNewDevice : laws_FnExactNewDevice.Pure := by
  intro x y gx gy
  rfl
end Go.Proofs.Ytaecdlhomihejaa.Pure
