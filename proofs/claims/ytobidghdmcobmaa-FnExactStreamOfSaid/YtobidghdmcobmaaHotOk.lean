/- Both functions IsHot, as one truth value. Conditions: those before each theorem. -/
import Derived.Test.YtobidghdmcobmaaQ4
import Derived.Test.YtobidghdmcobmaaXValidHeat
import Derived.Test.YtobidghdmcobmaaHeatOk
namespace Go.Proofs.Ytobidghdmcobmaa.Q
open Go.RowKit Go.Proofs.YtobidghdmcobmaaW.PrintWords
def isHot (l : List Int) (x n : Int) : Bool := okHeat l x && (decide (0 ≤ n ∧ n ≤ (l.length : Int) - 1) && hotB l n)
theorem specHot_ev (l : List Int) (x n : Int) (hl : (l.length : Int) < 9223372036854775807) : Ev (fun k => spec_IsHot.f k l x n) (isHot l x n) := by
  unfold spec_IsHot.f isHot
  refine Ev.bind (l13Ok_ev l x hl) ?_
  by_cases c : okHeat l x = true
  · rw [c, Bool.true_and]
    exact Ev.if_pos (by simp) (Ev.bind (l13Hot_ev l x n hl) (Ev.now _))
  · rw [Bool.not_eq_true] at c
    rw [c, Bool.false_and]
    exact Ev.if_neg (by simp) (Ev.now _)
theorem implIsHot_ev (l : List Int) (x n : Int) (hl : (l.length : Int) < 9223372036854775807) : Ev (fun k => impl_IsHot.f k l x n) (isHot l x n) := by
  unfold impl_IsHot.f isHot
  refine Ev.bind1 (implHeat_eq l x) ?_
  by_cases c : okHeat l x = true
  · rw [c, Bool.true_and]
    refine Ev.if_pos (by simp) (Ev.bind1 (isIndex_eq n l.length hl) ?_)
    by_cases c2 : 0 ≤ n ∧ n ≤ (l.length : Int) - 1
    · rw [decide_eq_true c2, Bool.true_and]
      exact Ev.if_pos (by simp) (Ev.bind (implHot_ev l x n hl (by omega)) (Ev.now _))
    · rw [decide_eq_false c2, Bool.false_and]
      exact Ev.if_neg (by simp) (Ev.now _)
  · rw [Bool.not_eq_true] at c
    rw [c, Bool.false_and]
    exact Ev.if_neg (by simp) (Ev.now _)
end Go.Proofs.Ytobidghdmcobmaa.Q
