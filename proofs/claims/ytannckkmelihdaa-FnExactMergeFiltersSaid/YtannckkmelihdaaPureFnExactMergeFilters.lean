/- The law FnExactMergeFilters, as a statement over numbers and lists. No condition. -/
import Derived.Test.YtannckkmelihdaaSayFnExactMergeFilters
import Derived.Test.YtannckkmelihdaaXMergeI
namespace Go.Proofs.Ytannckkmelihdaa.Pure
open Go.RowKit Go.Proofs.Ytannckkmelihdaa.Q Go.Proofs.YtannckkmelihdaaW.PrintWords
theorem FnExactMergeFilters : laws_FnExactMergeFilters.Pure := by
  intro a b _ _
  unfold laws_FnExactMergeFilters.f spec_MergeFilters.f impl_MergeFilters.f
  split
  · rfl
  · split
    · rfl
    · simp
end Go.Proofs.Ytannckkmelihdaa.Pure
