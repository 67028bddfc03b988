/- The law FnExactStreamOf, as a statement over numbers and lists. No condition. -/
import Derived.Test.YtobidghdmcobmaaSayFnExactStreamOf
import Derived.Test.YtobidghdmcobmaaXValidHeat
import Derived.Test.YtobidghdmcobmaaHotOk
import Derived.Test.YtobidghdmcobmaaHeatC
namespace Go.Proofs.Ytobidghdmcobmaa.Pure
open Go.RowKit Go.Proofs.Ytobidghdmcobmaa.Q Go.Proofs.YtobidghdmcobmaaW.PrintWords
theorem FnExactStreamOf : laws_FnExactStreamOf.Pure := by
  intro x n hx _
  have hm : maxLen ≤ 9223372036854775807 := by decide
  obtain ⟨⟨g0, _⟩, _⟩ : (x.f0.length ≤ maxLen ∧ _) ∧ _ := hx
  obtain ⟨r1, e1, _, q1⟩ := szHeat_some x.f0 x.f1 1048576 (by omega) (by omega) (by omega)
  unfold laws_FnExactStreamOf.f
  refine Ev.rounds ?_
  refine Ev.bind1 e1 ?_
  by_cases h1 : r1 < 0
  · exact Ev.if_pos h1 (Ev.now _)
  refine Ev.if_neg h1 ?_
  have b1 := q1 (by omega)
  have t1 := toHeat_ev x.f0 x.f1 (by omega)
  obtain ⟨v, p, i⟩ : ∃ v, Ev (fun k => spec_StreamOf.f k x.f0 x.f1 n) v ∧ Ev (fun k => impl_StreamOf.f k x.f0 x.f1 n) v := by
    unfold spec_StreamOf.f impl_StreamOf.f
    have p := specHot_ev x.f0 x.f1 n (by omega)
    have i := implIsHot_ev x.f0 x.f1 n (by omega)
    cases h : isHot x.f0 x.f1 n with
    | true =>
      rw [h] at p i
      exact ⟨1, Ev.bind p (Ev.if_pos rfl (Ev.now _)), Ev.bind i (Ev.if_pos rfl (Ev.now _))⟩
    | false =>
      rw [h] at p i
      exact ⟨0, Ev.bind p (Ev.if_neg (by decide) (Ev.now _)), Ev.bind i (Ev.if_neg (by decide) (Ev.now _))⟩
  exact Ev.bind t1 (Ev.bind p (Ev.bind t1 (Ev.bind i (Ev.if_pos rfl (Ev.bind t1 (Ev.bind (eqHeat_self x.f0 x.f1 (by omega)) (Ev.if_pos rfl (Ev.now _))))))))
end Go.Proofs.Ytobidghdmcobmaa.Pure
