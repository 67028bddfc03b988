/- The law FnExactNewFTL, as a statement over numbers and lists. No condition. -/
import Derived.Test.YtaecdlhomihejaaSayFnExactNewFTL
namespace Go.Proofs.Ytaecdlhomihejaa.Pure
open Go.RowKit Go.Proofs.Ytaecdlhomihejaa.Q Go.Proofs.YtaecdlhomihejaaW.PrintWords
theorem FnExactNewFTL : laws_FnExactNewFTL.Pure := by
  intro x y z u gx gy gz gu
  rfl
end Go.Proofs.Ytaecdlhomihejaa.Pure
