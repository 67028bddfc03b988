/- The law FnExactPickFree, as a statement over numbers and lists. No condition. -/
import Derived.Test.YtcdkkdlaalbgiaaSayFnExactPickFree
import Derived.Test.YtcdkkdlaalbgiaaInOk
import Derived.Test.YtcdkkdlaalbgiaaInt64C
import Derived.Test.YtcdkkdlaalbgiaaEqInt64S
import Derived.Test.YtcdkkdlaalbgiaaXPickFree
namespace Go.Proofs.Ytcdkkdlaalbgiaa.Pure
open Go.RowKit Go.Proofs.Ytcdkkdlaalbgiaa.Q Go.Proofs.YtcdkkdlaalbgiaaW.PrintWords
set_option linter.unusedVariables false
def cmpF (hot : Bool) : Int → Int → Bool := if hot = true then ltB else gtB
theorem spec_step (k : Nat) (er fr : List Int) (hot : Bool) (best b : Int) (i : Nat) (hi : i < fr.length) (hl : (fr.length : Int) < 9223372036854775807) (he : (er.length : Int) < 9223372036854775807) (hb : rd fr (i : Int) = b)
    (hr : best = -1 ∨ 0 ≤ best ∧ best < er.length) (hin : 0 ≤ b ∧ b ≤ (er.length : Int) - 1) :
    spec_PickFree.l0 (k + 1) er fr hot best i = spec_PickFree.l0 k er fr hot (bstep (cmpF hot) er best b) ((i + 1 : Nat) : Int) := by
  have ew : wrap64 ((er.length : Int) - 1) = (er.length : Int) - 1 := by unfold wrap64; omega
  have ei : wrap64 ((i : Int) + 1) = ((i + 1 : Nat) : Int) := by unfold wrap64; omega
  rw [spec_PickFree.l0, if_pos (by omega), if_pos (by omega), hb, ew, ei, l00In_eq, decide_eq_true hin, Option.bind_some, if_pos rfl]
  unfold bstep cmpF
  by_cases c1 : best < 0
  · rw [if_pos c1, if_pos c1]
  · rw [if_neg c1, if_neg c1, if_pos (by omega), if_pos (by omega), if_pos (by omega), if_pos (by omega)]
    cases hot with
    | true =>
      rw [if_pos rfl, if_pos rfl]
      unfold ltB
      by_cases c2 : rd er b < rd er best
      · rw [if_pos c2, if_pos (decide_eq_true c2)]
      · rw [if_neg c2, if_neg (show ¬ (decide (rd er b < rd er best) = true) by rw [decide_eq_false c2]; decide)]
        by_cases c3 : rd er b = rd er best
        · rw [if_pos c3, if_pos c3]
          by_cases c4 : b < best
          · rw [if_pos c4, if_pos c4]
          · rw [if_neg c4, if_neg c4]
        · rw [if_neg c3, if_neg c3]
    | false =>
      rw [if_neg (show ¬ (false = true) by decide), if_neg (show ¬ (false = true) by decide)]
      unfold gtB
      by_cases c2 : rd er b > rd er best
      · rw [if_pos c2, if_pos (decide_eq_true c2)]
      · rw [if_neg c2, if_neg (show ¬ (decide (rd er b > rd er best) = true) by rw [decide_eq_false c2]; decide)]
        by_cases c3 : rd er b = rd er best
        · rw [if_pos c3, if_pos c3]
          by_cases c4 : b < best
          · rw [if_pos c4, if_pos c4]
          · rw [if_neg c4, if_neg c4]
        · rw [if_neg c3, if_neg c3]
theorem spec_loop (er fr : List Int) (hot : Bool) (hl : (fr.length : Int) < 9223372036854775807) (he : (er.length : Int) < 9223372036854775807) (d : Nat) : ∀ (i : Nat) (best : Int), i ≤ fr.length → fr.length - i = d → (best = -1 ∨ 0 ≤ best ∧ best < er.length) →
    Ev (fun k => spec_PickFree.l0 k er fr hot best i) (if allIn (fr.drop i) 0 ((er.length : Int) - 1) = true then (fr.drop i).foldl (bstep (cmpF hot) er) best else -1) := by
  induction d with
  | zero =>
    intro i best h1 h2 h3
    rw [List.drop_of_length_le (by omega)]
    refine Ev.step (f := fun _ => some best) (fun k => ?_) (Ev.now _)
    rw [spec_PickFree.l0, if_neg (by omega)]
  | succ d ih =>
    intro i best h1 h2 h3
    have hi : i < fr.length := by omega
    rw [List.drop_eq_getElem_cons hi]
    have hb := rd_get fr i hi
    revert hb
    generalize fr[i]'hi = b
    intro hb
    by_cases hin : 0 ≤ b ∧ b ≤ (er.length : Int) - 1
    · have e1 : allIn (b :: fr.drop (i + 1)) 0 ((er.length : Int) - 1) = allIn (fr.drop (i + 1)) 0 ((er.length : Int) - 1) := by
        unfold allIn
        rw [List.all_cons, decide_eq_true hin, Bool.true_and]
      rw [e1, List.foldl_cons]
      refine Ev.step (fun k => spec_step k er fr hot best b i hi hl he hb h3 hin) (ih (i + 1) _ (by omega) (by omega) (Or.inr (bstep_range _ er er.length best b h3 (by omega))))
    · have e1 : allIn (b :: fr.drop (i + 1)) 0 ((er.length : Int) - 1) = false := by
        unfold allIn
        rw [List.all_cons, decide_eq_false hin, Bool.false_and]
      rw [e1, if_neg (by decide)]
      refine Ev.step (f := fun _ => some (-1)) (fun k => ?_) (Ev.now _)
      have ew : wrap64 ((er.length : Int) - 1) = (er.length : Int) - 1 := by unfold wrap64; omega
      rw [spec_PickFree.l0, if_pos (by omega), if_pos (by omega), hb, ew, l00In_eq, decide_eq_false hin, Option.bind_some, if_neg (by decide)]
theorem FnExactPickFree : laws_FnExactPickFree.Pure := by
  intro x y hot hx hy _
  unfold laws_FnExactPickFree.f
  refine Ev.rounds ?_
  by_cases h1 : (x.length : Int) > 1048576
  · exact Ev.if_pos h1 (Ev.now _)
  refine Ev.if_neg h1 ?_
  by_cases h2 : (y.length : Int) > 1048576
  · exact Ev.if_pos h2 (Ev.now _)
  refine Ev.if_neg h2 ?_
  have t1 := toInt64S_ev x (by omega)
  have t2 := toInt64S_ev y (by omega)
  have p := spec_loop x y hot (by omega) (by omega) y.length 0 (-1) (by omega) (by omega) (Or.inl rfl)
  have ew : wrap64 ((x.length : Int) - 1) = (x.length : Int) - 1 := by unfold wrap64; omega
  have q : impl_PickFree.f x y hot = some (if allIn (y.drop 0) 0 ((x.length : Int) - 1) = true then (y.drop 0).foldl (bstep (cmpF hot) x) (-1) else -1) := by
    unfold impl_PickFree.f
    rw [ew, List.drop_zero]
    rfl
  refine Ev.bind t1 (Ev.bind t2 (Ev.bind p (Ev.bind t1 (Ev.bind t2 (Ev.bind1 q (Ev.if_pos rfl ?_))))))
  refine Ev.bind t1 (Ev.bind (eqInt64S_ev x x (by omega)) (Ev.if_pos (by simp) ?_))
  exact Ev.bind t2 (Ev.bind (eqInt64S_ev y y (by omega)) (Ev.if_pos (by simp) (Ev.now _)))
end Go.Proofs.Ytcdkkdlaalbgiaa.Pure
