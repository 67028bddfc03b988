/- The law FnExactPutRecord, as a statement over numbers and lists. No condition. -/
import Derived.Test.YtolffokfddjceaaSayFnExactPutRecord
import Derived.Test.YtolffokfddjceaaRecOk
import Derived.Test.YtolffokfddjceaaPutOk
import Derived.Test.YtolffokfddjceaaSzRec
namespace Go.Proofs.Ytolffokfddjceaa.Pure
open Go.RowKit Go.Proofs.Ytolffokfddjceaa.Q Go.Proofs.YtolffokfddjceaaW.PrintWords
theorem FnExactPutRecord : laws_FnExactPutRecord.Pure := by
  intro x hg
  obtain ⟨g0, _, _, g3, g4⟩ : x.f0.size ≤ 140737488351232 ∧ _ ∧ _ ∧ x.f3.size ≤ 140737488351232 ∧ x.f4.size ≤ 140737488351232 := hg
  obtain ⟨r, hr⟩ := szRecord_some x.f0 x.f1 x.f2 x.f3 x.f4 1048576
  have hd : (recData x.f2 x.f3 x.f4).size ≤ 1000000000000000 := by unfold recData; split <;> omega
  have h1 := l17Put_ev x.f0 x.f1 x.f2 x.f3 x.f4 (by omega) hd
  have h2 := put_ev x.f0 x.f1 x.f2 x.f3 x.f4 (by omega) hd
  unfold laws_FnExactPutRecord.f spec_PutRecord.f impl_PutRecord.f
  simp only [hr, toRecord_eq, Option.bind_some]
  by_cases c2 : r < 0
  · exact ⟨0, by rw [if_pos c2]⟩
  · obtain ⟨K1, h1⟩ := h1
    obtain ⟨K2, h2⟩ := h2
    refine ⟨K1 + K2 + 1, ?_⟩
    have e1 := h1 (K1 + K2 + 1) (by omega)
    have e2 := h2 (K1 + K2 + 1) (by omega)
    dsimp only at e1 e2
    rw [if_neg c2]
    simp only [l17Valid_eq, implRec_eq, Option.bind_some]
    by_cases c3 : okRec x.f0 x.f1 x.f2 x.f3 x.f4 = true
    · simp [c3, e1, e2]
    · simp [c3]
end Go.Proofs.Ytolffokfddjceaa.Pure
