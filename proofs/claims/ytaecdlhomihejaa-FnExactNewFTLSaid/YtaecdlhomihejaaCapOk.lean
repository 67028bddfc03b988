/- The least of two numbers, and the capacity of a geometry. No condition. -/
import Derived.Test.YtaecdlhomihejaaQ4
import Derived.Test.YtaecdlhomihejaaQ6
import Derived.Test.YtaecdlhomihejaaNum
namespace Go.Proofs.Ytaecdlhomihejaa.Q
open Go.RowKit Go.Proofs.YtaecdlhomihejaaW.PrintWords
theorem l00Min_eq (a b : Int) : spec_l00Min.f a b = some (mn a b) := by
  unfold spec_l00Min.f mn
  by_cases h : a < b
  · rw [if_pos h, if_neg (by omega)]
  · rw [if_neg h]
    by_cases h2 : b < a
    · rw [if_pos h2]
    · rw [if_neg h2]
      congr 1
      omega
theorem cap_same (a b c : Int) : impl_Geometry_capacity.f a b c = some (mn 48 (wrap64 (Int.tdiv (wrap64 ((wrap64 ((wrap64 (a * b)) - 6)) * c)) 2))) := by
  unfold impl_Geometry_capacity.f impl_Geometry_all.f
  rfl
end Go.Proofs.Ytaecdlhomihejaa.Q
