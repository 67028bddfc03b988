/- A heat's test and a page's, as truth values. Conditions: those before each theorem. -/
import Derived.Test.YtobidghdmcobmaaQ4
import Derived.Test.YtobidghdmcobmaaQ4
import Derived.Test.YtobidghdmcobmaaQ4
import Derived.Test.YtobidghdmcobmaaQ4
import Derived.Test.YtobidghdmcobmaaQ4
import Derived.Test.YtobidghdmcobmaaInOk
import Derived.Test.YtobidghdmcobmaaXAllW
import Derived.Test.YtobidghdmcobmaaNum
namespace Go.Proofs.Ytobidghdmcobmaa.Q
open Go.RowKit Go.Proofs.YtobidghdmcobmaaW.PrintWords
set_option linter.unusedVariables false
def okHeat (l : List Int) (x : Int) : Bool := decide (1 ≤ (l.length : Int) ∧ (l.length : Int) ≤ 48) && (decide (0 ≤ x ∧ x ≤ 15) && allIn l 0 1000000)
theorem ok_loop (l : List Int) (x : Int) (hl : (l.length : Int) < 9223372036854775807) (d : Nat) : ∀ i : Nat, i ≤ l.length → l.length - i = d → Ev (fun k => spec_l13Ok.l0 k i l x) (allIn (l.drop i) 0 1000000, x) := by
  induction d with
  | zero =>
    intro i h1 h2
    rw [List.drop_of_length_le (by omega)]
    refine Ev.step (f := fun _ => some (true, x)) (fun k => ?_) (Ev.now _)
    rw [spec_l13Ok.l0, if_neg (by omega)]
  | succ d ih =>
    intro i h1 h2
    have hi : i < l.length := by omega
    rw [List.drop_eq_getElem_cons hi]
    have hb := rd_get l i hi
    revert hb
    generalize l[i]'hi = b
    intro hb
    have ei : wrap64 ((i : Int) + 1) = ((i + 1 : Nat) : Int) := by unfold wrap64; omega
    by_cases hin : 0 ≤ b ∧ b ≤ 1000000
    · have e1 : allIn (b :: l.drop (i + 1)) 0 1000000 = allIn (l.drop (i + 1)) 0 1000000 := by
        unfold allIn
        rw [List.all_cons, decide_eq_true hin, Bool.true_and]
      rw [e1]
      refine Ev.step (fun k => ?_) (ih (i + 1) (by omega) (by omega))
      rw [spec_l13Ok.l0, if_pos (by omega), if_pos (by omega), hb, l00In_eq, decide_eq_true hin, Option.bind_some, if_pos rfl, ei]
    · have e1 : allIn (b :: l.drop (i + 1)) 0 1000000 = false := by
        unfold allIn
        rw [List.all_cons, decide_eq_false hin, Bool.false_and]
      rw [e1]
      refine Ev.step (f := fun _ => some (false, x)) (fun k => ?_) (Ev.now _)
      rw [spec_l13Ok.l0, if_pos (by omega), if_pos (by omega), hb, l00In_eq, decide_eq_false hin, Option.bind_some, if_neg (by decide)]
theorem j0_off (k : Nat) (l : List Int) (x : Int) : spec_l13Ok.j0 (k + 1) true l x = some (false, x) := by rw [spec_l13Ok.j0, if_pos rfl]
theorem l13Ok_ev (l : List Int) (x : Int) (hl : (l.length : Int) < 9223372036854775807) : Ev (fun k => spec_l13Ok.f k l x) (okHeat l x, x) := by
  unfold spec_l13Ok.f okHeat
  by_cases c1 : (l.length : Int) < 1
  · rw [decide_eq_false (show ¬ (1 ≤ (l.length : Int) ∧ (l.length : Int) ≤ 48) by omega), Bool.false_and]
    exact Ev.if_pos c1 (Ev.step (fun k => j0_off k l x) (Ev.now _))
  · refine Ev.if_neg c1 ?_
    by_cases c2 : (l.length : Int) > 48
    · rw [decide_eq_false (show ¬ (1 ≤ (l.length : Int) ∧ (l.length : Int) ≤ 48) by omega), Bool.false_and]
      exact Ev.if_pos c2 (Ev.step (fun k => j0_off k l x) (Ev.now _))
    · refine Ev.if_neg c2 ?_
      rw [decide_eq_true (show 1 ≤ (l.length : Int) ∧ (l.length : Int) ≤ 48 by omega), Bool.true_and, l00In_eq]
      by_cases c3 : 0 ≤ x ∧ x ≤ 15
      · rw [decide_eq_true c3, Bool.true_and]
        have := ok_loop l x hl l.length 0 (by omega) (by omega)
        rw [List.drop_zero] at this
        refine Ev.step (fun k => ?_) this
        show spec_l13Ok.j0 (k + 1) false l x = _
        rw [spec_l13Ok.j0, if_neg (by decide)]
        rfl
      · rw [decide_eq_false c3, Bool.false_and]
        exact Ev.step (fun k => j0_off k l x) (Ev.now _)
theorem implHeat_eq (l : List Int) (x : Int) : impl_ValidHeat.f l x = some (okHeat l x) := by
  unfold impl_ValidHeat.f okHeat impl_allWithin.f
  rw [within_eq, Option.bind_some]
  by_cases c1 : 1 ≤ (l.length : Int) ∧ (l.length : Int) ≤ 48
  · rw [decide_eq_true c1, if_pos rfl, Bool.true_and, Option.bind_some, within_eq, Option.bind_some]
    cases allIn l 0 1000000 with
    | true => rw [if_pos rfl, Bool.and_true]
    | false => rw [if_neg (by decide), Bool.and_false]
  · rw [decide_eq_false c1, if_neg (by decide), Bool.false_and]
def sumW (l : List Int) : Int := l.foldl (fun s x => wrap64 (s + x)) 0
def hotB (l : List Int) (n : Int) : Bool := decide (wrap64 (rd l n * (l.length : Int)) > wrap64 (2 * sumW l))
theorem sumW_take (l : List Int) (i : Nat) (h : i < l.length) : sumW (l.take (i + 1)) = wrap64 (sumW (l.take i) + rd l i) := by
  unfold sumW
  rw [List.take_succ_eq_append_getElem h, List.foldl_append, rd_get l i h]
  rfl
theorem hot_loop (l : List Int) (x n : Int) (hl : (l.length : Int) < 9223372036854775807) (hn : 0 ≤ n ∧ n < l.length) (d : Nat) : ∀ i : Nat, i ≤ l.length → l.length - i = d → Ev (fun k => spec_l13Hot.l0 k n (sumW (l.take i)) i l x) (hotB l n, x) := by
  induction d with
  | zero =>
    intro i h1 h2
    rw [List.take_of_length_le (by omega)]
    refine Ev.step (f := fun _ => some (hotB l n, x)) (fun k => ?_) (Ev.now _)
    rw [spec_l13Hot.l0, if_neg (by omega), if_pos hn.1, if_pos hn.2]
    rfl
  | succ d ih =>
    intro i h1 h2
    have hi : i < l.length := by omega
    have ei : wrap64 ((i : Int) + 1) = ((i + 1 : Nat) : Int) := by unfold wrap64; omega
    refine Ev.step (fun k => ?_) (ih (i + 1) (by omega) (by omega))
    rw [spec_l13Hot.l0, if_pos (by omega), if_pos (by omega), sumW_take l i hi, ei]
theorem l13Hot_ev (l : List Int) (x n : Int) (hl : (l.length : Int) < 9223372036854775807) : Ev (fun k => spec_l13Hot.f k l x n) (decide (0 ≤ n ∧ n ≤ (l.length : Int) - 1) && hotB l n, x) := by
  unfold spec_l13Hot.f
  have ew : wrap64 ((l.length : Int) - 1) = (l.length : Int) - 1 := by unfold wrap64; omega
  rw [ew, l00In_eq]
  by_cases c : 0 ≤ n ∧ n ≤ (l.length : Int) - 1
  · rw [decide_eq_true c, Bool.true_and]
    have h := hot_loop l x n hl (by omega) l.length 0 (by omega) (by omega)
    refine Ev.bind1 (a := true) rfl (Ev.if_pos rfl h)
  · rw [decide_eq_false c, Bool.false_and]
    exact Ev.bind1 (a := false) rfl (Ev.if_neg (show ¬ (false = true) by decide) (Ev.now _))
theorem ihot_loop (l : List Int) (x n : Int) (hl : (l.length : Int) < 9223372036854775807) (hn : 0 ≤ n ∧ n < l.length) (d : Nat) : ∀ i : Nat, i ≤ l.length → l.length - i = d → Ev (fun k => impl_Heat_hot.l0 k n (sumW (l.take i)) l (l.length : Int) i l x) (hotB l n) := by
  induction d with
  | zero =>
    intro i h1 h2
    rw [List.take_of_length_le (by omega)]
    refine Ev.step (f := fun _ => some (hotB l n)) (fun k => ?_) (Ev.now _)
    rw [impl_Heat_hot.l0, if_neg (by omega), if_pos hn.1, if_pos hn.2]
    rfl
  | succ d ih =>
    intro i h1 h2
    have hi : i < l.length := by omega
    have ei : wrap64 ((i : Int) + 1) = ((i + 1 : Nat) : Int) := by unfold wrap64; omega
    refine Ev.step (fun k => ?_) (ih (i + 1) (by omega) (by omega))
    rw [impl_Heat_hot.l0, if_pos (by omega), if_pos (by omega), if_pos (by omega), sumW_take l i hi, ei]
theorem implHot_ev (l : List Int) (x n : Int) (hl : (l.length : Int) < 9223372036854775807) (hn : 0 ≤ n ∧ n < l.length) : Ev (fun k => impl_Heat_hot.f k l x n) (hotB l n) := by
  unfold impl_Heat_hot.f
  exact ihot_loop l x n hl hn l.length 0 (by omega) (by omega)
theorem isIndex_eq (n : Int) (m : Nat) (hl : (m : Int) < 9223372036854775807) : impl_isIndex.f n m = some (decide (0 ≤ n ∧ n ≤ (m : Int) - 1)) := by
  unfold impl_isIndex.f
  have ew : wrap64 ((m : Int) - 1) = (m : Int) - 1 := by unfold wrap64; omega
  rw [ew, within_eq]
  rfl
end Go.Proofs.Ytobidghdmcobmaa.Q
