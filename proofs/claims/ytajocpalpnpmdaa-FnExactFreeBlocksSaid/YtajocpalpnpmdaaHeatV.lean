/- A heat's test, as a truth value. Conditions: those before each theorem. -/
import Derived.Test.YtajocpalpnpmdaaQ4
import Derived.Test.YtajocpalpnpmdaaQ5
import Derived.Test.YtajocpalpnpmdaaInOk
import Derived.Test.YtajocpalpnpmdaaXAllW
import Derived.Test.YtajocpalpnpmdaaNum
namespace Go.Proofs.Ytajocpalpnpmdaa.Q
open Go.RowKit Go.Proofs.YtajocpalpnpmdaaW.PrintWords
set_option linter.unusedVariables false
def okHeat (l : List Int) (x : Int) : Bool := decide (1 ≤ (l.length : Int) ∧ (l.length : Int) ≤ 48) && (decide (0 ≤ x ∧ x ≤ 15) && allIn l 0 1000000)
theorem implHeat_eq (l : List Int) (x : Int) : impl_ValidHeat.f l x = some (okHeat l x) := by
  unfold impl_ValidHeat.f okHeat impl_allWithin.f
  rw [within_eq, Option.bind_some]
  by_cases c1 : 1 ≤ (l.length : Int) ∧ (l.length : Int) ≤ 48
  · rw [decide_eq_true c1, if_pos rfl, Bool.true_and, Option.bind_some, within_eq, Option.bind_some]
    cases allIn l 0 1000000 with
    | true => rw [if_pos rfl, Bool.and_true]
    | false => rw [if_neg (by decide), Bool.and_false]
  · rw [decide_eq_false c1, if_neg (by decide), Bool.false_and]
end Go.Proofs.Ytajocpalpnpmdaa.Q
