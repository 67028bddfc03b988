/- Both sides' tests of a flash translation layer are one. No condition. -/
import Derived.Test.YtajocpalpnpmdaaXMidFtl
import Derived.Test.YtajocpalpnpmdaaXValidFTL
namespace Go.Proofs.Ytajocpalpnpmdaa.Q
open Go.RowKit Go.Proofs.YtajocpalpnpmdaaW.PrintWords
set_option linter.unusedVariables false
theorem open_eq (O : List Int) (m : Int) (s n a bd po : Bool) :
    (s && (((O.length : Int) == 2) && (n && (bd && (po && (decide (-1 ≤ rd O 0 ∧ rd O 0 ≤ wrap64 (m - 1)) && (decide (-1 ≤ rd O 1 ∧ rd O 1 ≤ wrap64 (m - 1)) && (!(decide (0 ≤ rd O 0) && (rd O 0 == rd O 1)) && a)))))))) = (s && (openB O m && (n && (a && (bd && po))))) := by
  unfold openB
  match O with
  | [x, y] =>
    have e0 : rd [x, y] 0 = x := rfl
    have e1 : rd [x, y] 1 = y := rfl
    have e2 : ((([x, y] : List Int).length : Int) == 2) = true := rfl
    have e3 : allIn [x, y] (-1) (wrap64 (m - 1)) = (decide (-1 ≤ x ∧ x ≤ wrap64 (m - 1)) && (decide (-1 ≤ y ∧ y ≤ wrap64 (m - 1)) && true)) := rfl
    rw [e0, e1, e2, e3]
    by_cases hx : -1 ≤ x ∧ x ≤ wrap64 (m - 1)
    · have ek : (!(decide (0 ≤ x) && (x == y))) = (!(x == y) || (x == -1)) := by
        by_cases h0 : 0 ≤ x
        · rw [decide_eq_true h0, show (x == -1) = false from beq_eq_false_iff_ne.2 (by omega), Bool.true_and, Bool.or_false]
        · rw [decide_eq_false h0, show (x == -1) = true from beq_iff_eq.2 (by omega), Bool.false_and, Bool.or_true]
          rfl
      rw [decide_eq_true hx, ek]
      generalize decide (-1 ≤ y ∧ y ≤ wrap64 (m - 1)) = q
      generalize (!(x == y) || (x == -1)) = t
      cases s <;> cases n <;> cases a <;> cases bd <;> cases po <;> cases q <;> cases t <;> rfl
    · rw [decide_eq_false hx]
      cases s <;> cases n <;> cases a <;> cases bd <;> cases po <;> rfl
  | [] => cases s <;> cases n <;> cases a <;> cases bd <;> cases po <;> rfl
  | [x] => cases s <;> cases n <;> cases a <;> cases bd <;> cases po <;> rfl
  | x :: y :: z :: t =>
    have e2 : (((x :: y :: z :: t : List Int).length : Int) == 2) = false := beq_eq_false_iff_ne.2 (by simp only [List.length_cons]; omega)
    rw [e2]
    cases s <;> cases n <;> cases a <;> cases bd <;> cases po <;> rfl
theorem ftlS_eq (d b p : Int) (L : List (S92)) (u v z mb mp : Int) (M : List Int) (T : List Bool) (H : List Int) (hn sq : Int) (O X : List Int) (bd po : Int) :
    ftlS d b p L u v z mb mp M T H hn sq O X bd po = ftlI d b p L u v z mb mp M T H hn sq O X bd po := by
  unfold ftlS ftlI
  cases hf : flashB d b p L u v z with
  | false => rfl
  | true =>
    have hl : (L.length : Int) = wrap64 (d * b) := by
      unfold flashB at hf
      simp only [Bool.and_eq_true, decide_eq_true_eq] at hf
      exact hf.2.1
    rw [hl, open_eq]
end Go.Proofs.Ytajocpalpnpmdaa.Q
