/- The law FnExactCapacityFTL, as a statement over numbers and lists. No condition. -/
import Derived.Test.YtannckkmelihdaaSayFnExactCapacityFTL
import Derived.Test.YtannckkmelihdaaGeoOk
import Derived.Test.YtannckkmelihdaaCapOk
namespace Go.Proofs.Ytannckkmelihdaa.Pure
open Go.RowKit Go.Proofs.Ytannckkmelihdaa.Q Go.Proofs.YtannckkmelihdaaW.PrintWords
theorem FnExactCapacityFTL : laws_FnExactCapacityFTL.Pure := by
  intro x _
  unfold laws_FnExactCapacityFTL.f laws_toGeometry.f spec_CapacityFTL.f impl_CapacityFTL.f
  simp only [Option.bind_some, specGeo_eq, implGeo_eq]
  by_cases h : okGeo x.f0 x.f1 x.f2 = true
  · simp only [h, if_true, cap_same, l00Min_eq, Option.bind_some]
  · simp only [h, if_false, Bool.false_eq_true, Option.bind_some, if_true]
end Go.Proofs.Ytannckkmelihdaa.Pure
