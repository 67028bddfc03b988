/- The place of the first element of which a question holds. No condition. -/
import Derived.Test.YtajocpalpnpmdaaNum
namespace Go.Proofs.Ytajocpalpnpmdaa.Q
def idxOf {α : Type} (p : α → Bool) : List α → Int
  | [] => -1
  | x :: xs => if p x = true then 0 else if idxOf p xs < 0 then -1 else idxOf p xs + 1
theorem idxOf_hit {α : Type} (p : α → Bool) : ∀ (xs : List α) (i : Nat) (x : α), xs[i]? = some x → p x = true → (∀ (j : Nat) (y : α), j < i → xs[j]? = some y → p y = false) → idxOf p xs = i
  | [], i, x, h, _, _ => by simp at h
  | y :: xs, 0, x, h, hx, _ => by
    simp at h
    subst h
    simp [idxOf, hx]
  | y :: xs, i + 1, x, h, hx, hj => by
    have h0 := hj 0 y (by omega) rfl
    have ih := idxOf_hit p xs i x (by simpa using h) hx (fun j z hji hz => hj (j + 1) z (by omega) (by simpa using hz))
    simp only [idxOf, h0, ih]
    rw [if_neg (by simp), if_neg (by omega)]
    omega
theorem idxOf_miss {α : Type} (p : α → Bool) : ∀ (xs : List α), (∀ (j : Nat) (y : α), xs[j]? = some y → p y = false) → idxOf p xs = -1
  | [], _ => rfl
  | y :: xs, h => by
    have h0 := h 0 y rfl
    have ih := idxOf_miss p xs (fun j z hz => h (j + 1) z (by simpa using hz))
    simp only [idxOf, h0, ih]
    rw [if_neg (by simp), if_pos (by omega)]
theorem idxOf_any {α : Type} (p : α → Bool) (xs : List α) : decide (0 ≤ idxOf p xs) = xs.any p := by
  rw [Bool.eq_iff_iff, decide_eq_true_iff]
  induction xs with
  | nil => simp [idxOf]
  | cons x xs ih =>
    show 0 ≤ (if p x = true then (0 : Int) else if idxOf p xs < 0 then -1 else idxOf p xs + 1) ↔ _
    rw [List.any_cons, Bool.or_eq_true, ← ih]
    by_cases hp : p x = true
    · simp [hp]
    · rw [if_neg hp]
      have hp2 : (p x = true) = False := eq_false hp
      rw [hp2, false_or]
      by_cases h : idxOf p xs < 0
      · rw [if_pos h]
        omega
      · rw [if_neg h]
        omega
end Go.Proofs.Ytajocpalpnpmdaa.Q
