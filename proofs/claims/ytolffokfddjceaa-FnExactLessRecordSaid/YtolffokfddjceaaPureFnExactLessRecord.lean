/- The law FnExactLessRecord, as a statement over numbers and lists. No condition. -/
import Derived.Test.YtolffokfddjceaaSayFnExactLessRecord
import Derived.Test.YtolffokfddjceaaLessOk
import Derived.Test.YtolffokfddjceaaSzRec
namespace Go.Proofs.Ytolffokfddjceaa.Pure
open Go.RowKit Go.Proofs.Ytolffokfddjceaa.Q Go.Proofs.YtolffokfddjceaaW.PrintWords
theorem FnExactLessRecord : laws_FnExactLessRecord.Pure := by
  intro x y _ _
  obtain ⟨r, hr⟩ := szRecord_some x.f0 x.f1 x.f2 x.f3 x.f4 1048576
  obtain ⟨r2, hr2⟩ := szRecord_some y.f0 y.f1 y.f2 y.f3 y.f4 r
  obtain ⟨K, h⟩ := compareRecords_ev x.f0 x.f1 x.f2 x.f3 x.f4 y.f0 y.f1 y.f2 y.f3 y.f4
  have h1 := h K (by omega)
  dsimp only at h1
  refine ⟨K, ?_⟩
  unfold laws_FnExactLessRecord.f spec_LessRecord.f impl_LessRecord.f
  simp only [hr, hr2, toRecord_eq, Option.bind_some, l17Less_eq, h1, cmpRec_neg]
  split
  · rfl
  · split
    · rfl
    · simp
end Go.Proofs.Ytolffokfddjceaa.Pure
