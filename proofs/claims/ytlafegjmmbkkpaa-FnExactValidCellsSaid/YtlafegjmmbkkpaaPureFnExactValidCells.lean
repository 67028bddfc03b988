/- The law FnExactValidCells, as a statement over numbers and lists. No condition. -/
import Derived.Test.YtlafegjmmbkkpaaSayFnExactValidCells
import Derived.Test.YtlafegjmmbkkpaaCellsOk
namespace Go.Proofs.Ytlafegjmmbkkpaa.Pure
open Go.RowKit Go.Proofs.Ytlafegjmmbkkpaa.Q Go.Proofs.YtlafegjmmbkkpaaW.PrintWords
theorem FnExactValidCells : laws_FnExactValidCells.Pure := by
  intro x hg
  obtain ⟨hl, _, _⟩ : x.f0.length ≤ maxLen ∧ _ := hg
  have hm := maxLen_le
  obtain ⟨r, e, a, b⟩ := szCells_some x.f0 1048576 (by omega) (by omega) (by omega)
  unfold laws_FnExactValidCells.f
  simp only [e, Option.bind_some]
  by_cases h : r < 0
  · exact ⟨0, by rw [if_pos h]⟩
  · have hn := b (by omega)
    refine Ev.rounds ?_
    refine Ev.if_neg h ?_
    refine Ev.bind (toCells_ev _ (by omega)) ?_
    refine Ev.bind (validCells_ev _) ?_
    refine Ev.bind (toCells_ev _ (by omega)) ?_
    refine Ev.bind1 (implCells_eq _) ?_
    refine Ev.if_neg (by simp) ?_
    refine Ev.bind (toCells_ev _ (by omega)) ?_
    refine Ev.bind (eqCells_self _ (by omega)) ?_
    exact Ev.now _
end Go.Proofs.Ytlafegjmmbkkpaa.Pure
