/- The law FnExactValidKey, as a statement over numbers and lists. No condition. -/
import Derived.Test.YtannckkmelihdaaSayFnExactValidKey
import Derived.Test.YtannckkmelihdaaKeyOk
namespace Go.Proofs.Ytannckkmelihdaa.Pure
open Go.RowKit Go.Proofs.Ytannckkmelihdaa.Q Go.Proofs.YtannckkmelihdaaW.PrintWords
theorem FnExactValidKey : laws_FnExactValidKey.Pure := by
  intro s _
  unfold laws_FnExactValidKey.f spec_ValidKey.f
  rw [l17Key_eq, implKey_eq]
  split <;> simp
end Go.Proofs.Ytannckkmelihdaa.Pure
