/- The keys of a valid run do not fall. Conditions: those before each theorem. -/
import Derived.Test.YtogndjjoeahccaaXRun
import Derived.Test.YtogndjjoeahccaaStrCmp
namespace Go.Proofs.Ytogndjjoeahccaa.Q
open Go.RowKit Go.Proofs.YtogndjjoeahccaaW.PrintWords
set_option linter.unusedVariables false
theorem blk_trans : ∀ a b c : List UInt8, Op.bytesLess a b = true → Op.bytesLess b c = true → Op.bytesLess a c = true
  | _, [], _, h, _ => by simp [Op.bytesLess] at h
  | _, _ :: _, [], _, h => by simp [Op.bytesLess] at h
  | [], _ :: _, _ :: _, _, _ => rfl
  | x :: a, y :: b, z :: c, h1, h2 => by
    simp only [Op.bytesLess, Bool.or_eq_true, Bool.and_eq_true, decide_eq_true_eq, beq_iff_eq, UInt8.lt_iff_toNat_lt, ← UInt8.toNat_inj] at h1 h2 ⊢
    rcases h1 with h1 | ⟨h1, k1⟩
    · rcases h2 with h2 | ⟨h2, k2⟩
      · left; omega
      · left; omega
    · rcases h2 with h2 | ⟨h2, k2⟩
      · left; omega
      · right; exact ⟨by omega, blk_trans a b c k1 k2⟩
theorem blk_le_lt (a b c : List UInt8) (h1 : Op.bytesLess a b = false) (h2 : Op.bytesLess a c = true) : Op.bytesLess b c = true := by
  have t := StrCmp.bytesLess_total a b
  rw [h1, Bool.false_or] at t
  by_cases e : a = b
  · rw [← e]; exact h2
  · have hne : (a == b) = false := by rw [beq_eq_false_iff_ne]; exact e
    rw [hne] at t
    exact blk_trans b a c t.symm h2
theorem blk_asym (a b : List UInt8) (h : a = b ∨ Op.bytesLess a b = true) : Op.bytesLess b a = false := by
  rw [← StrCmp.bytesLess_total a b]
  rcases h with h | h
  · have : (a == b) = true := beq_iff_eq.2 h
    rw [this, Bool.or_true]; rfl
  · rw [h]; rfl
theorem run_step (l : List S49) : ∀ (d i : Nat), runFrom l d i = true → ∀ j : Nat, i ≤ j → j < i + d → j = 0 ∨ lessX (rd_T49 l ((j : Int) - 1)) (rd_T49 l (j : Int)) = true
  | 0, i, _, j, h1, h2 => by omega
  | d + 1, i, h, j, h1, h2 => by
    unfold runFrom at h
    simp only [Bool.and_eq_true, Bool.or_eq_true, decide_eq_true_eq] at h
    by_cases e : j = i
    · subst e
      exact h.1.2.2
    · exact run_step l d (i + 1) h.2 j (by omega) (by omega)
theorem key_step (x y : S49) (h : lessX x y = true) : Op.bytesLess y.f0.toList x.f0.toList = false := by
  refine blk_asym _ _ ?_
  unfold lessX recLess at h
  by_cases e : x.f0.toList = y.f0.toList
  · exact Or.inl e
  · rw [if_neg e] at h
    exact Or.inr h
theorem keys_fall (l : List S49) (hr : runFrom l l.length 0 = true) (key : List UInt8) (i : Nat) : ∀ d : Nat, i + d < l.length → Op.bytesLess (rd_T49 l ((i + d : Nat) : Int)).f0.toList key = true → Op.bytesLess (rd_T49 l (i : Int)).f0.toList key = true
  | 0, _, h => h
  | d + 1, hl, h => by
    refine keys_fall l hr key i d (by omega) ?_
    have hs := (run_step l l.length 0 hr (i + (d + 1)) (by omega) (by omega)).resolve_left (by omega)
    rw [show ((i + (d + 1) : Nat) : Int) - 1 = ((i + d : Nat) : Int) from by omega] at hs
    exact blk_le_lt _ _ _ (key_step _ _ hs) h
end Go.Proofs.Ytogndjjoeahccaa.Q
