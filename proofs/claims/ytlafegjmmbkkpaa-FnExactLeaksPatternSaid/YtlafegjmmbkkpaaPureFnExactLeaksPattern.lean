/- The law FnExactLeaksPattern, as a statement over numbers and lists. No condition. -/
import Derived.Test.YtlafegjmmbkkpaaSayFnExactLeaksPattern
import Derived.Test.YtlafegjmmbkkpaaCellsOk
import Derived.Test.YtlafegjmmbkkpaaXLeaks
namespace Go.Proofs.Ytlafegjmmbkkpaa.Pure
open Go.RowKit Go.Proofs.Ytlafegjmmbkkpaa.Q Go.Proofs.YtlafegjmmbkkpaaW.PrintWords
theorem spec_loop (l : List Int) (hl : (l.length : Int) < 9223372036854775807) (d : Nat) : ∀ i : Nat, 1 ≤ i → l.length + 1 - i = d → Ev (fun k => spec_LeaksPattern.l0 k i l) (((l.drop i).any fun n => n != rd l 0) && okCells l) := by
  induction d with
  | zero =>
    intro i h1 h2
    rw [List.drop_of_length_le (by omega)]
    refine Ev.step (f := fun _ => some false) (fun k => ?_) (Ev.now _)
    rw [spec_LeaksPattern.l0, if_neg (by omega)]
  | succ d ih =>
    intro i h1 h2
    by_cases hi : i < l.length
    · rw [List.drop_eq_getElem_cons hi]
      have hb := rd_get l i hi
      have ei : wrap64 ((i : Int) + 1) = ((i + 1 : Nat) : Int) := by unfold wrap64; omega
      revert hb
      generalize l[i]'hi = b
      intro hb
      by_cases c : b = rd l 0
      · have e : (b != rd l 0) = false := by rw [c]; simp
        rw [List.any_cons, e, Bool.false_or]
        refine Ev.step (fun k => ?_) (ih (i + 1) (by omega) (by omega))
        rw [spec_LeaksPattern.l0, if_pos (by omega), if_pos (by omega), if_pos (by omega), hb, if_pos c, ei]
      · have e : (b != rd l 0) = true := by simpa using c
        rw [List.any_cons, e, Bool.true_or, Bool.true_and]
        refine Ev.step (fun k => ?_) (Ev.bind (f := fun _ t => some t) (validCells_ev l) (Ev.now _))
        rw [spec_LeaksPattern.l0, if_pos (by omega), if_pos (by omega), if_pos (by omega), hb, if_neg c]
    · rw [List.drop_of_length_le (by omega)]
      refine Ev.step (f := fun _ => some false) (fun k => ?_) (Ev.now _)
      rw [spec_LeaksPattern.l0, if_neg (by omega)]
theorem any_drop (l : List Int) : (l.drop 1).any (fun n => n != rd l 0) = l.any fun n => n != rd l 0 := by
  cases l with
  | nil => rfl
  | cons x l =>
    have e : rd (x :: l) 0 = x := rfl
    rw [e]
    simp
theorem FnExactLeaksPattern : laws_FnExactLeaksPattern.Pure := by
  intro x hg
  have hm : maxLen ≤ 9223372036854775807 := by decide
  obtain ⟨g0, _⟩ : x.f0.length ≤ maxLen ∧ _ := hg
  obtain ⟨r, e, _, q⟩ := szCells_some x.f0 1048576 (by omega) (by omega) (by omega)
  unfold laws_FnExactLeaksPattern.f
  refine Ev.rounds ?_
  refine Ev.bind1 e ?_
  by_cases h : r < 0
  · exact Ev.if_pos h (Ev.now _)
  refine Ev.if_neg h ?_
  have hn := q (by omega)
  have t := toCells_ev x.f0 (by omega)
  have p := spec_loop x.f0 (by omega) x.f0.length 1 (by omega) (by omega)
  have p2 : Ev (fun k => spec_LeaksPattern.f k x.f0) ((x.f0.any fun n => n != rd x.f0 0) && okCells x.f0) := by
    rw [← any_drop]
    exact p
  have i : impl_LeaksPattern.f x.f0 = some ((x.f0.any fun n => n != rd x.f0 0) && okCells x.f0) := by
    unfold impl_LeaksPattern.f
    rw [implCells_eq, Option.bind_some]
    cases okCells x.f0 with
    | true => rw [if_pos rfl, Bool.and_true]
    | false => rw [if_neg (by decide), Bool.and_false]
  exact Ev.bind t (Ev.bind p2 (Ev.bind t (Ev.bind1 i (Ev.if_neg (by simp) (Ev.bind t (Ev.bind (eqCells_self x.f0 (by omega)) (Ev.if_pos rfl (Ev.now _))))))))
end Go.Proofs.Ytlafegjmmbkkpaa.Pure
