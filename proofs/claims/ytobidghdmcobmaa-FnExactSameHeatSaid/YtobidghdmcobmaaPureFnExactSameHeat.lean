/- The law FnExactSameHeat, as a statement over numbers and lists. No condition. -/
import Derived.Test.YtobidghdmcobmaaSayFnExactSameHeat
import Derived.Test.YtobidghdmcobmaaQ2
import Derived.Test.YtobidghdmcobmaaQ2
import Derived.Test.YtobidghdmcobmaaHeatC
import Derived.Test.YtobidghdmcobmaaSameI
import Derived.Test.YtobidghdmcobmaaEqualI
namespace Go.Proofs.Ytobidghdmcobmaa.Pure
open Go.RowKit Go.Proofs.Ytobidghdmcobmaa.Q Go.Proofs.YtobidghdmcobmaaW.PrintWords
theorem heat_same (l m : List Int) (x y : Int) (hl : l.length ≤ 9223372036854775806) : ∃ v, Ev (fun k => spec_SameHeat.f k l x m y) v ∧ Ev (fun k => impl_SameHeat.f k l x m y) v := by
  unfold spec_SameHeat.f impl_SameHeat.f
  by_cases h : l = m
  · exact ⟨x == y, Ev.bind (same_ev l m hl) (Ev.if_pos (decide_eq_true h) (Ev.now _)), Ev.bind (equalI_ev l m hl) (Ev.if_pos (decide_eq_true h) (Ev.now _))⟩
  · exact ⟨false, Ev.bind (same_ev l m hl) (Ev.if_neg (by rw [decide_eq_false h]; decide) (Ev.now _)), Ev.bind (equalI_ev l m hl) (Ev.if_neg (by rw [decide_eq_false h]; decide) (Ev.now _))⟩
theorem FnExactSameHeat : laws_FnExactSameHeat.Pure := by
  intro x y hx hy
  have hm : maxLen ≤ 9223372036854775807 := by decide
  obtain ⟨⟨g0, _⟩, _⟩ : (x.f0.length ≤ maxLen ∧ _) ∧ _ := hx
  obtain ⟨⟨g1, _⟩, _⟩ : (y.f0.length ≤ maxLen ∧ _) ∧ _ := hy
  obtain ⟨r1, e1, _, q1⟩ := szHeat_some x.f0 x.f1 1048576 (by omega) (by omega) (by omega)
  unfold laws_FnExactSameHeat.f
  refine Ev.rounds ?_
  refine Ev.bind1 e1 ?_
  by_cases h1 : r1 < 0
  · exact Ev.if_pos h1 (Ev.now _)
  refine Ev.if_neg h1 ?_
  have b1 := q1 (by omega)
  obtain ⟨r2, e2, _, q2⟩ := szHeat_some y.f0 y.f1 r1 (by omega) (by omega) (by omega)
  refine Ev.bind1 e2 ?_
  by_cases h2 : r2 < 0
  · exact Ev.if_pos h2 (Ev.now _)
  refine Ev.if_neg h2 ?_
  have b2 := q2 (by omega)
  have t1 := toHeat_ev x.f0 x.f1 (by omega)
  have t2 := toHeat_ev y.f0 y.f1 (by omega)
  obtain ⟨v, p1, p2⟩ := heat_same x.f0 y.f0 x.f1 y.f1 (by omega)
  refine Ev.bind t1 (Ev.bind t2 (Ev.bind p1 (Ev.bind t1 (Ev.bind t2 (Ev.bind p2 (Ev.if_neg (by simp) ?_))))))
  refine Ev.bind t1 (Ev.bind (eqHeat_self x.f0 x.f1 (by omega)) (Ev.if_pos rfl ?_))
  exact Ev.bind t2 (Ev.bind (eqHeat_self y.f0 y.f1 (by omega)) (Ev.if_pos rfl (Ev.now _)))
end Go.Proofs.Ytobidghdmcobmaa.Pure
