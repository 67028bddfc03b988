/- The law FnExactValidFragment, as a statement over numbers and lists. No condition. -/
import Derived.Test.YtannckkmelihdaaSayFnExactValidFragment
import Derived.Test.YtannckkmelihdaaInOk
namespace Go.Proofs.Ytannckkmelihdaa.Pure
open Go.RowKit Go.Proofs.Ytannckkmelihdaa.Q Go.Proofs.YtannckkmelihdaaW.PrintWords
theorem fragment_same (a b c : Int) (s : ByteArray) : ∃ v, spec_l19Valid.f a b c s = some v ∧ impl_ValidFragment.f 1 a b c s = some v := by
  have e : impl_ValidFragment.f 1 a b c s = impl_ValidFragment.j0 1 (a == 1 || a == 2) a b c s := by
    unfold impl_ValidFragment.f
    by_cases h : a = 1
    · simp [h]
    · have h2 : (a == 1) = false := by simp [h]
      simp [h, h2]
  rw [e]
  unfold spec_l19Valid.f impl_ValidFragment.j0
  simp only [l00In_eq, within_eq, Option.bind_some]
  by_cases h1 : 1 ≤ a ∧ a ≤ 4
  · by_cases h2 : 1 ≤ b ∧ b ≤ 1000000
    · by_cases h3 : 0 ≤ c ∧ c ≤ 9
      · by_cases h4 : (s.size : Int) < 1
        · refine ⟨false, by simp [h1, h2, h3, h4], ?_⟩
          simp only [h1, h2, h3, and_self, decide_true, if_true]
          split
          · simp; omega
          · rfl
        · by_cases h5 : (s.size : Int) > 54
          · refine ⟨false, by simp [h1, h2, h3, h4, h5], ?_⟩
            simp only [h1, h2, h3, and_self, decide_true, if_true]
            split
            · simp; omega
            · rfl
          · refine ⟨(c == 0) == (a == 1 || a == 2), ?_, ?_⟩
            · simp only [h1, h2, h3, and_self, decide_true, if_true]
              rw [if_neg h4, if_neg h5]
              by_cases h6 : a = 1
              · simp [h6]
              · have h7 : (a == 1) = false := by simp [h6]
                simp [h6, h7]
            · simp only [h1, h2, h3, and_self, decide_true, if_true]
              split
              · rename_i h6
                simp only [h6]
                simp; omega
              · rename_i h6
                simp only [Bool.not_eq_true] at h6
                rw [h6]
      · exact ⟨false, by simp [h1, h2, h3], by simp [h1, h2, h3]⟩
    · exact ⟨false, by simp [h1, h2], by simp [h1, h2]⟩
  · exact ⟨false, by simp [h1], by simp [h1]⟩
theorem FnExactValidFragment : laws_FnExactValidFragment.Pure := by
  intro x _
  obtain ⟨v, h1, h2⟩ := fragment_same x.f0 x.f1 x.f2 x.f3
  refine ⟨1, ?_⟩
  unfold laws_FnExactValidFragment.f laws_szLogFragment.f laws_toLogFragment.f spec_ValidFragment.f
  simp only [Option.bind_some, h1, h2]
  split
  · simp
  · simp
end Go.Proofs.Ytannckkmelihdaa.Pure
