/- The law FnExactValidMem, as a statement over numbers and lists. No condition. -/
import Derived.Test.YtolffokfddjceaaSayFnExactValidMem
import Derived.Test.YtolffokfddjceaaRunOk
import Derived.Test.YtolffokfddjceaaRecS
namespace Go.Proofs.Ytolffokfddjceaa.Pure
open Go.RowKit Go.Proofs.Ytolffokfddjceaa.Q Go.Proofs.YtolffokfddjceaaW.PrintWords
theorem FnExactValidMem : laws_FnExactValidMem.Pure := by
  intro l hg
  obtain ⟨hl, hb, he⟩ : l.length ≤ maxLen ∧ l.length * 64 ≤ 140737488351232 ∧ ∀ y ∈ l, _ := hg
  have hs : ∀ x ∈ l, small x := by
    intro x hx
    obtain ⟨g0, _, _, g3, g4⟩ := he x hx
    exact ⟨g0, g3, g4⟩
  have hw : ∀ x ∈ l.map toR, (Lit.int .i64 x.f1).wf = true := by
    intro x hx
    obtain ⟨y, hy, rfl⟩ := List.mem_map.1 hx
    exact (he y hy).2.1
  obtain ⟨r, e, a, b, c⟩ := szRecordS_ev l hs (by omega) 1048576 (by omega) (by omega)
  unfold laws_FnExactValidMem.f
  refine Ev.rounds ?_
  refine Ev.bind e ?_
  by_cases h : r < 0
  · exact Ev.if_pos h (Ev.now _)
  refine Ev.if_neg h ?_
  have hn := c (by omega)
  have hlen : ((l.map toR).length : Int) ≤ 1000000000 := by rw [List.length_map]; omega
  have p1 := l17Run_ev (l.map toR) hlen
  have p2 := implRun_eq (l.map toR) hlen hw
  have t := toRecordS_ev l (by omega)
  obtain ⟨v, q1, q2⟩ : ∃ v, Ev (fun k => spec_ValidMem.f k (l.map toR)) v ∧ impl_ValidMem.f (l.map toR) = some v := by
    unfold spec_ValidMem.f spec_l18Valid.f impl_ValidMem.f
    by_cases c24 : ((l.map toR).length : Int) ≤ 24
    · refine ⟨_, Ev.bind (Ev.if_pos c24 (Ev.bind p1 (Ev.now _))) (Ev.now _), ?_⟩
      rw [if_pos c24, p2]
      rfl
    · refine ⟨_, Ev.bind (Ev.if_neg c24 (Ev.now _)) (Ev.now _), ?_⟩
      rw [if_neg c24]
  exact Ev.bind t (Ev.bind q1 (Ev.bind t (Ev.bind1 q2 (Ev.if_neg (by simp) (Ev.bind t (Ev.bind (eqRecordS_self _ (by omega)) (Ev.if_pos rfl (Ev.now _))))))))
end Go.Proofs.Ytolffokfddjceaa.Pure
