/- The specification's test of a run, as one truth value. Conditions: those before each theorem. -/
import Derived.Test.YtogndjjoeahccaaQ2
import Derived.Test.YtogndjjoeahccaaXRun
namespace Go.Proofs.Ytogndjjoeahccaa.Q
open Go.RowKit Go.Proofs.YtogndjjoeahccaaW.PrintWords
set_option linter.unusedVariables false
theorem l1_loop (l : List S49) (i : Nat) (rest : Bool) (hi : i < l.length) (hl : (l.length : Int) ≤ 1000000000) (hr : Ev (fun k => spec_l17Run.l0 k l ((i + 1 : Nat) : Int)) rest) (d : Nat) : ∀ j : Nat, j ≤ i → i - j = d →
    Ev (fun k => spec_l17Run.l1 k l i j) (!(((l.take i).drop j).any fun y => y.f1 == (rd_T49 l (i : Int)).f1) && rest) := by
  have ei : wrap64 ((i : Int) + 1) = ((i + 1 : Nat) : Int) := by unfold wrap64; omega
  induction d with
  | zero =>
    intro j h1 h2
    rw [List.drop_of_length_le (by rw [List.length_take]; omega), List.any_nil, Bool.not_false, Bool.true_and]
    refine Ev.step (fun k => ?_) hr
    rw [spec_l17Run.l1, if_neg (by omega), ei]
  | succ d ih =>
    intro j h1 h2
    have hj : j < (l.take i).length := by rw [List.length_take]; omega
    have ej : wrap64 ((j : Int) + 1) = ((j + 1 : Nat) : Int) := by unfold wrap64; omega
    have hb : rd_T49 l (j : Int) = (l.take i)[j] := by rw [rd_getX l j (by omega), List.getElem_take]
    rw [List.drop_eq_getElem_cons hj, List.any_cons, ← hb]
    by_cases c : (rd_T49 l (j : Int)).f1 = (rd_T49 l (i : Int)).f1
    · rw [beq_iff_eq.2 c, Bool.true_or, Bool.not_true, Bool.false_and]
      refine Ev.step (f := fun _ => some false) (fun k => ?_) (Ev.now _)
      rw [spec_l17Run.l1, if_pos (by omega), if_pos (by omega), if_pos (by omega), if_pos (by omega), if_pos (by omega), if_pos c]
    · rw [beq_eq_false_iff_ne.2 c, Bool.false_or]
      refine Ev.step (fun k => ?_) (ih (j + 1) (by omega) (by omega))
      rw [spec_l17Run.l1, if_pos (by omega), if_pos (by omega), if_pos (by omega), if_pos (by omega), if_pos (by omega), if_neg c, ej]
theorem l0_loop (l : List S49) (hl : (l.length : Int) ≤ 1000000000) (d : Nat) : ∀ i : Nat, i ≤ l.length → l.length - i = d → Ev (fun k => spec_l17Run.l0 k l i) (runFrom l d i) := by
  induction d with
  | zero =>
    intro i h1 h2
    refine Ev.step (f := fun _ => some true) (fun k => ?_) (Ev.now _)
    rw [spec_l17Run.l0, if_neg (by omega)]
  | succ d ih =>
    intro i h1 h2
    have hi : i < l.length := by omega
    have h1i := l1_loop l i (runFrom l d (i + 1)) hi hl (ih (i + 1) (by omega) (by omega)) i 0 (by omega) (by omega)
    rw [List.drop_zero] at h1i
    have ew : 1 ≤ i → wrap64 ((i : Int) - 1) = (i : Int) - 1 := fun h => by unfold wrap64; omega
    have e : runFrom l (d + 1) i = ((okX (rd_T49 l i) && (!((l.take i).any fun y => y.f1 == (rd_T49 l i).f1) && (decide (i = 0) || lessX (rd_T49 l ((i : Int) - 1)) (rd_T49 l i)))) && runFrom l d (i + 1)) := rfl
    rw [e]
    have hj1 : Ev (fun k => spec_l17Run.j1 k l i false) (!((l.take i).any fun y => y.f1 == (rd_T49 l (i : Int)).f1) && runFrom l d (i + 1)) := by
      refine Ev.step (fun k => ?_) h1i
      rw [spec_l17Run.j1, if_neg (by decide)]
      rfl
    have hj0 : Ev (fun k => spec_l17Run.j1 k l i true) false := Ev.step (f := fun _ => some false) (fun k => by rw [spec_l17Run.j1, if_pos rfl]) (Ev.now _)
    have hv := l17Valid_ev (rd_T49 l (i : Int)).f0 (rd_T49 l (i : Int)).f1 (rd_T49 l (i : Int)).f2 (rd_T49 l (i : Int)).f3 (rd_T49 l (i : Int)).f4
    by_cases c0 : i = 0
    · have hz : ¬ ((i : Int) > 0) := by omega
      refine Ev.step (f := fun k => (spec_l17Valid.f k (rd_T49 l (i : Int)).f0 (rd_T49 l (i : Int)).f1 (rd_T49 l (i : Int)).f2 (rd_T49 l (i : Int)).f3 (rd_T49 l (i : Int)).f4).bind fun t => if t = true then spec_l17Run.j1 k l i false else spec_l17Run.j1 k l i true) (fun k => ?_) (Ev.bind hv ?_)
      · rw [spec_l17Run.l0, if_pos (by omega), if_pos (by omega)]
        simp only [if_neg hz]
      · cases ok : okX (rd_T49 l (i : Int)) with
        | true =>
          rw [decide_eq_true c0, Bool.true_or, Bool.and_true, Bool.true_and]
          exact Ev.if_pos ok hj1
        | false =>
          rw [Bool.false_and, Bool.false_and]
          exact Ev.if_neg (by show ¬ (okX _ = true); rw [ok]; decide) hj0
    · have hz : (i : Int) > 0 := by omega
      refine Ev.step (f := fun k => (spec_l17Valid.f k (rd_T49 l (i : Int)).f0 (rd_T49 l (i : Int)).f1 (rd_T49 l (i : Int)).f2 (rd_T49 l (i : Int)).f3 (rd_T49 l (i : Int)).f4).bind fun t => if t = true then spec_l17Run.j1 k l i (!(lessX (rd_T49 l ((i : Int) - 1)) (rd_T49 l (i : Int)))) else spec_l17Run.j1 k l i true) (fun k => ?_) (Ev.bind hv ?_)
      · rw [spec_l17Run.l0, if_pos (by omega), if_pos (by omega), ew (by omega)]
        simp only [if_pos hz, if_pos (show (0 : Int) ≤ (i : Int) - 1 by omega), if_pos (show (i : Int) - 1 < (l.length : Int) by omega), l17Less_eq, Option.bind_some]
        rfl
      · cases ok : okX (rd_T49 l (i : Int)) with
        | true =>
          rw [decide_eq_false c0, Bool.false_or, Bool.true_and]
          refine Ev.if_pos ok ?_
          cases hls : lessX (rd_T49 l ((i : Int) - 1)) (rd_T49 l (i : Int)) with
          | true => rw [Bool.and_true]; exact hj1
          | false => rw [Bool.and_false, Bool.false_and]; exact hj0
        | false =>
          rw [Bool.false_and, Bool.false_and]
          exact Ev.if_neg (by show ¬ (okX _ = true); rw [ok]; decide) hj0
theorem l17Run_ev (l : List S49) (hl : (l.length : Int) ≤ 1000000000) : Ev (fun k => spec_l17Run.f k l) (runFrom l l.length 0) := l0_loop l hl l.length 0 (by omega) (by omega)
theorem implRun_eq (l : List S49) (hl : (l.length : Int) ≤ 1000000000) (hw : ∀ x ∈ l, (Lit.int .i64 x.f1).wf = true) : impl_ValidRun.f l = some (runFrom l l.length 0) := by
  unfold impl_ValidRun.f
  rw [if_pos (by omega), if_pos (List.all_eq_true.2 hw)]
end Go.Proofs.Ytogndjjoeahccaa.Q
