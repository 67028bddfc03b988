/- What a valid run gives: short records. Conditions: those before each theorem. -/
import Derived.Test.YtogndjjoeahccaaRunOk
import Derived.Test.YtogndjjoeahccaaEncB
namespace Go.Proofs.Ytogndjjoeahccaa.Q
open Go.RowKit Go.Proofs.YtogndjjoeahccaaW.PrintWords
set_option linter.unusedVariables false
theorem run_ok (l : List S49) : ∀ (d i : Nat), runFrom l d i = true → ∀ j : Nat, i ≤ j → j < i + d → okX (rd_T49 l (j : Int)) = true
  | 0, i, _, j, h1, h2 => by omega
  | d + 1, i, h, j, h1, h2 => by
    unfold runFrom at h
    simp only [Bool.and_eq_true] at h
    by_cases e : j = i
    · subst e
      exact h.1.1
    · exact run_ok l d (i + 1) h.2 j (by omega) (by omega)
theorem size_nil {s : ByteArray} (h : (s.toList == []) = true) : s.size = 0 := by
  have h1 := data_length s
  rw [← ba_toList, beq_iff_eq.1 h] at h1
  simpa using h1.symm
theorem ok_parts (x : S49) (h : okX x = true) : 1 ≤ x.f0.size ∧ x.f0.size ≤ 8 ∧ 1 ≤ x.f1 ∧ x.f1 ≤ 1000000 ∧ 1 ≤ x.f2 ∧ x.f2 ≤ 3 ∧ (dataX x).size ≤ 16 ∧ (x.f2 = 3 → x.f3.size = 0) ∧ (¬ x.f2 = 3 → x.f4.size = 0) := by
  unfold okX okRec okKey at h
  simp only [Bool.and_eq_true, decide_eq_true_eq] at h
  obtain ⟨h1, h2, h3⟩ := h
  unfold dataX
  by_cases c1 : x.f2 = 1
  · rw [if_pos c1] at h3
    simp only [Bool.and_eq_true, decide_eq_true_eq] at h3
    rw [if_neg (by omega)]
    exact ⟨by omega, by omega, by omega, by omega, by omega, by omega, by omega, by omega, fun _ => size_nil h3.2⟩
  · rw [if_neg c1] at h3
    by_cases c2 : x.f2 = 2
    · rw [if_pos c2] at h3
      simp only [Bool.and_eq_true] at h3
      rw [if_neg (by omega), size_nil h3.1]
      exact ⟨by omega, by omega, by omega, by omega, by omega, by omega, by omega, by omega, fun _ => size_nil h3.2⟩
    · rw [if_neg c2] at h3
      by_cases c3 : x.f2 = 3
      · rw [if_pos c3] at h3 ⊢
        simp only [Bool.and_eq_true, decide_eq_true_eq] at h3
        exact ⟨by omega, by omega, by omega, by omega, by omega, by omega, by omega, fun _ => size_nil h3.1, by omega⟩
      · rw [if_neg c3] at h3
        cases h3
theorem ok_shortE (x : S49) (h : okX x = true) : shortE x = true := by
  have := ok_parts x h
  exact decide_eq_true ⟨by omega, by omega⟩
theorem run_all (l : List S49) (h : runFrom l l.length 0 = true) : ∀ x ∈ l, okX x = true := by
  intro x hx
  obtain ⟨j, hj, rfl⟩ := List.mem_iff_getElem.1 hx
  have hok := run_ok l l.length 0 h j (by omega) (by omega)
  rwa [rd_getX l j hj] at hok
theorem run_short (l : List S49) (h : runFrom l l.length 0 = true) : (l.all shortE) = true := List.all_eq_true.2 fun x hx => ok_shortE x (run_all l h x hx)
end Go.Proofs.Ytogndjjoeahccaa.Q
