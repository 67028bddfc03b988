/- The law FnExactAffects, as a statement over numbers and lists. No condition. -/
import Derived.Test.YtolffokfddjceaaSayFnExactAffects
import Derived.Test.YtolffokfddjceaaRecOk
import Derived.Test.YtolffokfddjceaaSzRec
namespace Go.Proofs.Ytolffokfddjceaa.Pure
open Go.RowKit Go.Proofs.Ytolffokfddjceaa.Q Go.Proofs.YtolffokfddjceaaW.PrintWords
theorem affects_same (a : ByteArray) (b c : Int) (d e s : ByteArray) : ∃ v, spec_l17Affects.f a b c d e s = some v ∧ impl_Record_affects.f a b c d e s = some v := by
  have e0 : impl_Record_affects.f a b c d e s = spec_l17Affects.f a b c d e s := rfl
  rw [e0]
  unfold spec_l17Affects.f
  split
  · split <;> exact ⟨_, rfl, rfl⟩
  · exact ⟨_, rfl, rfl⟩
theorem FnExactAffects : laws_FnExactAffects.Pure := by
  intro x s _ _
  obtain ⟨r, hr⟩ := szRecord_some x.f0 x.f1 x.f2 x.f3 x.f4 1048576
  obtain ⟨v, h1, h2⟩ := affects_same x.f0 x.f1 x.f2 x.f3 x.f4 s
  refine ⟨1, ?_⟩
  unfold laws_FnExactAffects.f spec_Affects.f impl_Affects.f
  simp only [hr, toRecord_eq, Option.bind_some, l17Valid_eq, implRec_eq, l17Key_eq, implKey_eq, h1, h2]
  by_cases c1 : (s.size : Int) > 1048576
  · rw [if_pos c1]
  · rw [if_neg c1]
    by_cases c2 : r < 0
    · rw [if_pos c2]
    · rw [if_neg c2]
      by_cases c3 : okRec x.f0 x.f1 x.f2 x.f3 x.f4 = true
      · by_cases c4 : okKey s = true
        · simp [c3, c4]
        · simp [c3, c4]
      · simp [c3]
end Go.Proofs.Ytolffokfddjceaa.Pure
