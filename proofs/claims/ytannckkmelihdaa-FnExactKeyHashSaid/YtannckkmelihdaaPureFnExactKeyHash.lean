/- The law FnExactKeyHash, as a statement over numbers and lists. No condition. -/
import Derived.Test.YtannckkmelihdaaSayFnExactKeyHash
import Derived.Test.YtannckkmelihdaaHashOk
namespace Go.Proofs.Ytannckkmelihdaa.Pure
open Go.RowKit Go.Proofs.Ytannckkmelihdaa.Q Go.Proofs.YtannckkmelihdaaW.PrintWords
theorem FnExactKeyHash : laws_FnExactKeyHash.Pure := by
  intro s seed hs hw
  obtain ⟨h0, h1⟩ := wf_i64 hw
  obtain ⟨r, ⟨K1, e1⟩, ⟨K2, e2⟩, _⟩ := hash_same s hs seed h0 h1
  dsimp only at e1 e2
  refine ⟨max K1 K2, ?_⟩
  unfold laws_FnExactKeyHash.f spec_KeyHash.f
  rw [e1 _ (by omega), e2 _ (by omega)]
  split <;> simp
end Go.Proofs.Ytannckkmelihdaa.Pure
