/- A heat's test, as a truth value. Conditions: those before each theorem. -/
import Derived.Test.YtobidghdmcobmaaQ2
import Derived.Test.YtobidghdmcobmaaQ2
import Derived.Test.YtobidghdmcobmaaInOk
import Derived.Test.YtobidghdmcobmaaXAllW
import Derived.Test.YtobidghdmcobmaaNum
namespace Go.Proofs.Ytobidghdmcobmaa.Q
open Go.RowKit Go.Proofs.YtobidghdmcobmaaW.PrintWords
set_option linter.unusedVariables false
def okHeat (l : List Int) (x : Int) : Bool := decide (1 ≤ (l.length : Int) ∧ (l.length : Int) ≤ 48) && (decide (0 ≤ x ∧ x ≤ 15) && allIn l 0 1000000)
theorem ok_loop (l : List Int) (x : Int) (hl : (l.length : Int) < 9223372036854775807) (d : Nat) : ∀ i : Nat, i ≤ l.length → l.length - i = d → Ev (fun k => spec_l13Ok.l0 k i l x) (allIn (l.drop i) 0 1000000, x) := by
  induction d with
  | zero =>
    intro i h1 h2
    rw [List.drop_of_length_le (by omega)]
    refine Ev.step (f := fun _ => some (true, x)) (fun k => ?_) (Ev.now _)
    rw [spec_l13Ok.l0, if_neg (by omega)]
  | succ d ih =>
    intro i h1 h2
    have hi : i < l.length := by omega
    rw [List.drop_eq_getElem_cons hi]
    have hb := rd_get l i hi
    revert hb
    generalize l[i]'hi = b
    intro hb
    have ei : wrap64 ((i : Int) + 1) = ((i + 1 : Nat) : Int) := by unfold wrap64; omega
    by_cases hin : 0 ≤ b ∧ b ≤ 1000000
    · have e1 : allIn (b :: l.drop (i + 1)) 0 1000000 = allIn (l.drop (i + 1)) 0 1000000 := by
        unfold allIn
        rw [List.all_cons, decide_eq_true hin, Bool.true_and]
      rw [e1]
      refine Ev.step (fun k => ?_) (ih (i + 1) (by omega) (by omega))
      rw [spec_l13Ok.l0, if_pos (by omega), if_pos (by omega), hb, l00In_eq, decide_eq_true hin, Option.bind_some, if_pos rfl, ei]
    · have e1 : allIn (b :: l.drop (i + 1)) 0 1000000 = false := by
        unfold allIn
        rw [List.all_cons, decide_eq_false hin, Bool.false_and]
      rw [e1]
      refine Ev.step (f := fun _ => some (false, x)) (fun k => ?_) (Ev.now _)
      rw [spec_l13Ok.l0, if_pos (by omega), if_pos (by omega), hb, l00In_eq, decide_eq_false hin, Option.bind_some, if_neg (by decide)]
theorem j0_off (k : Nat) (l : List Int) (x : Int) : spec_l13Ok.j0 (k + 1) true l x = some (false, x) := by rw [spec_l13Ok.j0, if_pos rfl]
theorem l13Ok_ev (l : List Int) (x : Int) (hl : (l.length : Int) < 9223372036854775807) : Ev (fun k => spec_l13Ok.f k l x) (okHeat l x, x) := by
  unfold spec_l13Ok.f okHeat
  by_cases c1 : (l.length : Int) < 1
  · rw [decide_eq_false (show ¬ (1 ≤ (l.length : Int) ∧ (l.length : Int) ≤ 48) by omega), Bool.false_and]
    exact Ev.if_pos c1 (Ev.step (fun k => j0_off k l x) (Ev.now _))
  · refine Ev.if_neg c1 ?_
    by_cases c2 : (l.length : Int) > 48
    · rw [decide_eq_false (show ¬ (1 ≤ (l.length : Int) ∧ (l.length : Int) ≤ 48) by omega), Bool.false_and]
      exact Ev.if_pos c2 (Ev.step (fun k => j0_off k l x) (Ev.now _))
    · refine Ev.if_neg c2 ?_
      rw [decide_eq_true (show 1 ≤ (l.length : Int) ∧ (l.length : Int) ≤ 48 by omega), Bool.true_and, l00In_eq]
      by_cases c3 : 0 ≤ x ∧ x ≤ 15
      · rw [decide_eq_true c3, Bool.true_and]
        have := ok_loop l x hl l.length 0 (by omega) (by omega)
        rw [List.drop_zero] at this
        refine Ev.step (fun k => ?_) this
        show spec_l13Ok.j0 (k + 1) false l x = _
        rw [spec_l13Ok.j0, if_neg (by decide)]
        rfl
      · rw [decide_eq_false c3, Bool.false_and]
        exact Ev.step (fun k => j0_off k l x) (Ev.now _)
theorem implHeat_eq (l : List Int) (x : Int) : impl_ValidHeat.f l x = some (okHeat l x) := by
  unfold impl_ValidHeat.f okHeat impl_allWithin.f
  rw [within_eq, Option.bind_some]
  by_cases c1 : 1 ≤ (l.length : Int) ∧ (l.length : Int) ≤ 48
  · rw [decide_eq_true c1, if_pos rfl, Bool.true_and, Option.bind_some, within_eq, Option.bind_some]
    cases allIn l 0 1000000 with
    | true => rw [if_pos rfl, Bool.and_true]
    | false => rw [if_neg (by decide), Bool.and_false]
  · rw [decide_eq_false c1, if_neg (by decide), Bool.false_and]
end Go.Proofs.Ytobidghdmcobmaa.Q
