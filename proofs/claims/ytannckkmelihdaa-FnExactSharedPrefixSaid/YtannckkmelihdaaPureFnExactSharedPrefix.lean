/- The law FnExactSharedPrefix, as a statement over numbers and lists. No condition. -/
import Derived.Test.YtannckkmelihdaaSayFnExactSharedPrefix
import Derived.Test.YtannckkmelihdaaSharedOk
namespace Go.Proofs.Ytannckkmelihdaa.Pure
open Go.RowKit Go.Proofs.Ytannckkmelihdaa.Q Go.Proofs.YtannckkmelihdaaW.PrintWords
theorem FnExactSharedPrefix : laws_FnExactSharedPrefix.Pure := by
  intro s t hs _
  obtain ⟨r, ⟨K1, e1⟩, ⟨K2, e2⟩, _⟩ := shared_same s t hs
  dsimp only at e1 e2
  refine ⟨max K1 K2, ?_⟩
  unfold laws_FnExactSharedPrefix.f spec_SharedPrefix.f
  rw [e1 _ (by omega), e2 _ (by omega)]
  split
  · rfl
  · split <;> simp
end Go.Proofs.Ytannckkmelihdaa.Pure
