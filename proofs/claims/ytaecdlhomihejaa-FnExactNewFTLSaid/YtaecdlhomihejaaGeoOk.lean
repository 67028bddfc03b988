/- The two tests of a geometry, as one truth value; the capacity. No condition. -/
import Derived.Test.YtaecdlhomihejaaQ3
import Derived.Test.YtaecdlhomihejaaQ6
import Derived.Test.YtaecdlhomihejaaInOk
namespace Go.Proofs.Ytaecdlhomihejaa.Q
open Go.RowKit Go.Proofs.YtaecdlhomihejaaW.PrintWords
def okGeo (a b c : Int) : Bool := decide (2 ≤ a ∧ a ≤ 3) && (decide (4 ≤ b ∧ b ≤ 12) && (c == 8 || c == 16))
theorem specGeo_eq (a b c : Int) : spec_ValidGeometry.f a b c = some (okGeo a b c) := by
  unfold spec_ValidGeometry.f okGeo
  simp only [l00In_eq, Option.bind_some]
  by_cases h1 : 2 ≤ a ∧ a ≤ 3
  · by_cases h2 : 4 ≤ b ∧ b ≤ 12
    · by_cases h3 : c = 8 <;> simp [h1, h2, h3]
    · simp [h1, h2]
  · simp [h1]
theorem implGeo_eq (a b c : Int) : impl_ValidGeometry.f a b c = some (okGeo a b c) := by
  unfold impl_ValidGeometry.f okGeo
  simp only [within_eq, Option.bind_some]
  by_cases h1 : 2 ≤ a ∧ a ≤ 3
  · by_cases h2 : 4 ≤ b ∧ b ≤ 12
    · by_cases h3 : c = 8 <;> simp [h1, h2, h3]
    · simp [h1, h2]
  · simp [h1]
end Go.Proofs.Ytaecdlhomihejaa.Q
