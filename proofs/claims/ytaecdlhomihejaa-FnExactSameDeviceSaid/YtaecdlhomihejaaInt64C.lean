/- The size of a list of numbers against a bound, and its copy. Conditions: those that stand before each theorem. -/
import Derived.Test.YtaecdlhomihejaaQ4
import Derived.Test.YtaecdlhomihejaaQ7
import Derived.Test.YtaecdlhomihejaaNum
import Derived.Test.YtaecdlhomihejaaCpInt64
namespace Go.Proofs.Ytaecdlhomihejaa.Q
open Go.RowKit Go.Proofs.YtaecdlhomihejaaW.PrintWords
set_option linter.unusedVariables false
theorem szInt64S_some (l : List Int) (n : Int) (hl : l.length ≤ 9223372036854775807) (h0 : -1 ≤ n) (h1 : n ≤ 1048576) :
    ∃ r, laws_szInt64S.f l n = some r ∧ -1 ≤ r ∧ r ≤ n ∧ (0 ≤ r → r + l.length ≤ n) := by
  unfold laws_szInt64S.f
  by_cases h : wrap64 (n - (l.length : Int)) < 0
  · rw [if_pos h]
    exact ⟨-1, rfl, by omega, h0, by omega⟩
  · rw [if_neg h]
    refine ⟨_, rfl, by omega, ?_, ?_⟩
    · unfold wrap64 at h ⊢; omega
    · unfold wrap64 at h ⊢; omega
end Go.Proofs.Ytaecdlhomihejaa.Q
