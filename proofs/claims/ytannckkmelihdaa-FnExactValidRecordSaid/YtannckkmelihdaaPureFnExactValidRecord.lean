/- The law FnExactValidRecord, as a statement over numbers and lists. No condition. -/
import Derived.Test.YtannckkmelihdaaSayFnExactValidRecord
import Derived.Test.YtannckkmelihdaaRecOk
import Derived.Test.YtannckkmelihdaaSzRec
namespace Go.Proofs.Ytannckkmelihdaa.Pure
open Go.RowKit Go.Proofs.Ytannckkmelihdaa.Q Go.Proofs.YtannckkmelihdaaW.PrintWords
theorem FnExactValidRecord : laws_FnExactValidRecord.Pure := by
  intro x _
  obtain ⟨r, hr⟩ := szRecord_some x.f0 x.f1 x.f2 x.f3 x.f4 1048576
  refine ⟨1, ?_⟩
  unfold laws_FnExactValidRecord.f spec_ValidRecord.f
  simp only [hr, toRecord_eq, Option.bind_some, l17Valid_eq, implRec_eq]
  split
  · rfl
  · simp
end Go.Proofs.Ytannckkmelihdaa.Pure
