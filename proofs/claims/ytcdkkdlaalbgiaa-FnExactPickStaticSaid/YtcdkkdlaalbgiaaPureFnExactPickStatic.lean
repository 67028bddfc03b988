/- The law FnExactPickStatic, as a statement over numbers and lists. No condition. -/
import Derived.Test.YtcdkkdlaalbgiaaSayFnExactPickStatic
import Derived.Test.YtcdkkdlaalbgiaaCpInt64
import Derived.Test.YtcdkkdlaalbgiaaEqInt64S
import Derived.Test.YtcdkkdlaalbgiaaCpBool
import Derived.Test.YtcdkkdlaalbgiaaEqBoolS
import Derived.Test.YtcdkkdlaalbgiaaXPickStatic
namespace Go.Proofs.Ytcdkkdlaalbgiaa.Pure
open Go.RowKit Go.Proofs.Ytcdkkdlaalbgiaa.Q Go.Proofs.YtcdkkdlaalbgiaaW.PrintWords
set_option linter.unusedVariables false
theorem l12Good_eqS (bad : List Bool) (i : Int) (h : 0 ≤ i) : spec_l12Good.f bad i = some (goodB bad i) := by
  unfold spec_l12Good.f goodB
  by_cases c : i ≥ (bad.length : Int)
  · rw [if_pos c, decide_eq_true c, Bool.true_or]
  · rw [if_neg c, if_pos h, if_pos (by omega), decide_eq_false c, Bool.false_or]
theorem has_loop (ex : List Int) (v : Int) (hl : (ex.length : Int) < 9223372036854775807) (d : Nat) : ∀ i : Nat, i ≤ ex.length → ex.length - i = d → Ev (fun k => spec_l00Has.l0 k ex v (i : Int)) (hasB (ex.drop i) v) := by
  induction d with
  | zero =>
    intro i h1 h2
    rw [List.drop_of_length_le (by omega)]
    refine Ev.step (f := fun _ => some false) (fun k => ?_) (Ev.now _)
    rw [spec_l00Has.l0, if_neg (by omega)]
  | succ d ih =>
    intro i h1 h2
    have hi : i < ex.length := by omega
    have ei : wrap64 ((i : Int) + 1) = ((i + 1 : Nat) : Int) := by unfold wrap64; omega
    have hx : rd ex (i : Int) = ex[i] := by simp [rd, hi]
    rw [List.drop_eq_getElem_cons hi]
    unfold hasB
    rw [List.any_cons, ← hx]
    by_cases c : rd ex (i : Int) = v
    · rw [show (v == rd ex (i : Int)) = true from beq_iff_eq.2 c.symm, Bool.true_or]
      refine Ev.step (f := fun _ => some true) (fun k => ?_) (Ev.now _)
      rw [spec_l00Has.l0, if_pos (by omega), if_pos (by omega), if_pos c]
    · rw [show (v == rd ex (i : Int)) = false from beq_eq_false_iff_ne.2 (fun e => c e.symm), Bool.false_or]
      refine Ev.step (fun k => ?_) (ih (i + 1) (by omega) (by omega))
      rw [spec_l00Has.l0, if_pos (by omega), if_pos (by omega), if_neg c, ei]
theorem has_ev (ex : List Int) (v : Int) (hl : (ex.length : Int) < 9223372036854775807) : Ev (fun k => spec_l00Has.f k ex v) (hasB ex v) := has_loop ex v hl ex.length 0 (by omega) (by omega)
def stF (er : List Int) (bad : List Bool) (ex : List Int) (d i : Nat) (b : Int) : Int := ((goodFrom bad d i).filter fun b => !hasB ex b).foldl (bstep ltS er) b
theorem stF_skip (er : List Int) (bad : List Bool) (ex : List Int) (d i : Nat) (b : Int) (h : goodB bad i = false ∨ hasB ex i = true) : stF er bad ex (d + 1) i b = stF er bad ex d (i + 1) b := by
  unfold stF
  rw [goodFrom]
  by_cases c : goodB bad i = true
  · rw [if_pos c, List.filter_cons]
    rcases h with h | h
    · rw [h] at c; cases c
    · rw [h]; simp
  · rw [if_neg c]
theorem stF_take (er : List Int) (bad : List Bool) (ex : List Int) (d i : Nat) (b : Int) (h : goodB bad i = true) (h2 : hasB ex i = false) : stF er bad ex (d + 1) i b = stF er bad ex d (i + 1) (bstep ltS er b i) := by
  unfold stF
  rw [goodFrom, if_pos h, List.filter_cons, h2]
  simp
theorem spec_loop (er : List Int) (bad : List Bool) (ex : List Int) (hl : (er.length : Int) < 9223372036854775807) (hx : (ex.length : Int) < 9223372036854775807) (d : Nat) : ∀ (i : Nat) (b : Int), i ≤ er.length → er.length - i = d → (b = -1 ∨ 0 ≤ b ∧ b < (i : Int)) → Ev (fun k => spec_PickStatic.l0 k er bad ex b (i : Int)) (stF er bad ex d i b) := by
  induction d with
  | zero =>
    intro i b h1 h2 h3
    refine Ev.step (f := fun _ => some b) (fun k => ?_) (Ev.now _)
    rw [spec_PickStatic.l0, if_neg (by omega)]
  | succ d ih =>
    intro i b h1 h2 h3
    have ei : wrap64 ((i : Int) + 1) = ((i + 1 : Nat) : Int) := by unfold wrap64; omega
    have hg := l12Good_eqS bad (i : Int) (by omega)
    have hh := has_ev ex (i : Int) hx
    have skip := ih (i + 1) b (by omega) (by omega) (by omega)
    have hit := ih (i + 1) (i : Int) (by omega) (by omega) (by omega)
    cases hq : goodB bad (i : Int) with
    | false =>
      rw [stF_skip er bad ex d i b (Or.inl hq)]
      rw [hq] at hg
      refine Ev.step (fun k => ?_) skip
      rw [spec_PickStatic.l0, if_pos (by omega), hg, Option.bind_some, if_neg (by decide), ei]
    | true =>
      rw [hq] at hg
      cases hp : hasB ex (i : Int) with
      | true =>
        rw [stF_skip er bad ex d i b (Or.inr hp)]
        rw [hp] at hh
        refine Ev.step (f := fun k => (spec_l00Has.f k ex (i : Int)).bind fun t => if t = true then spec_PickStatic.l0 k er bad ex b ((i + 1 : Nat) : Int) else (if b < 0 then (spec_PickStatic.l0 k er bad ex (i : Int) ((i + 1 : Nat) : Int)) else (if 0 ≤ (i : Int) then (if 0 ≤ b then (if b < (er.length : Int) then (if (rd er (i : Int)) < (rd er b) then (spec_PickStatic.l0 k er bad ex (i : Int) ((i + 1 : Nat) : Int)) else (spec_PickStatic.l0 k er bad ex b ((i + 1 : Nat) : Int))) else (none)) else (none)) else (none)))) (fun k => ?_) (Ev.bind hh (Ev.if_pos rfl skip))
        rw [spec_PickStatic.l0, if_pos (by omega), hg, Option.bind_some, if_pos rfl, ei]
      | false =>
        rw [stF_take er bad ex d i b hq hp]
        rw [hp] at hh
        have go : Ev (fun k => (if b < 0 then (spec_PickStatic.l0 k er bad ex (i : Int) ((i + 1 : Nat) : Int)) else (if 0 ≤ (i : Int) then (if 0 ≤ b then (if b < (er.length : Int) then (if (rd er (i : Int)) < (rd er b) then (spec_PickStatic.l0 k er bad ex (i : Int) ((i + 1 : Nat) : Int)) else (spec_PickStatic.l0 k er bad ex b ((i + 1 : Nat) : Int))) else (none)) else (none)) else (none)))) (stF er bad ex d (i + 1) (bstep ltS er b i)) := by
          unfold bstep ltS
          by_cases hb : b < 0
          · rw [if_pos hb]
            exact Ev.if_pos hb hit
          · rw [if_neg hb]
            refine Ev.if_neg hb (Ev.if_pos (by omega) (Ev.if_pos (by omega) (Ev.if_pos (by omega) ?_)))
            by_cases c : rd er (i : Int) < rd er b
            · rw [if_pos (decide_eq_true c)]
              exact Ev.if_pos c hit
            · rw [if_neg (by simpa using c), if_neg (show ¬ (i : Int) < b from by omega), ite_self]
              exact Ev.if_neg c skip
        refine Ev.step (f := fun k => (spec_l00Has.f k ex (i : Int)).bind fun t => if t = true then spec_PickStatic.l0 k er bad ex b ((i + 1 : Nat) : Int) else (if b < 0 then (spec_PickStatic.l0 k er bad ex (i : Int) ((i + 1 : Nat) : Int)) else (if 0 ≤ (i : Int) then (if 0 ≤ b then (if b < (er.length : Int) then (if (rd er (i : Int)) < (rd er b) then (spec_PickStatic.l0 k er bad ex (i : Int) ((i + 1 : Nat) : Int)) else (spec_PickStatic.l0 k er bad ex b ((i + 1 : Nat) : Int))) else (none)) else (none)) else (none)))) (fun k => ?_) (Ev.bind hh (Ev.if_neg (by decide) go))
        rw [spec_PickStatic.l0, if_pos (by omega), hg, Option.bind_some, if_pos rfl, ei]
theorem FnExactPickStatic : laws_FnExactPickStatic.Pure := by
  intro x y z hx hy hz
  unfold laws_FnExactPickStatic.f
  refine Ev.rounds ?_
  by_cases h1 : (x.length : Int) > 1048576
  · exact Ev.if_pos h1 (Ev.now _)
  refine Ev.if_neg h1 ?_
  by_cases h2 : (y.length : Int) > 1048576
  · exact Ev.if_pos h2 (Ev.now _)
  refine Ev.if_neg h2 ?_
  by_cases h3 : (z.length : Int) > 1048576
  · exact Ev.if_pos h3 (Ev.now _)
  refine Ev.if_neg h3 ?_
  have t1 := toInt64S_ev x (by omega)
  have t2 := toBoolS_ev y (by omega)
  have t3 := toInt64S_ev z (by omega)
  have q : impl_PickStatic.f x y z = some (staticOf x y z) := by
    unfold impl_PickStatic.f
    rw [if_pos (by omega)]
  have p : Ev (fun k => spec_PickStatic.f k x y z) (staticOf x y z) := spec_loop x y z (by omega) (by omega) x.length 0 (-1) (by omega) (by omega) (Or.inl rfl)
  refine Ev.bind t1 (Ev.bind t2 (Ev.bind t3 (Ev.bind p (Ev.bind t1 (Ev.bind t2 (Ev.bind t3 (Ev.bind1 q (Ev.if_pos rfl ?_))))))))
  refine Ev.bind t1 (Ev.bind (eqInt64S_ev x x (by omega)) (Ev.if_pos (by simp) ?_))
  refine Ev.bind t2 (Ev.bind (eqBoolS_ev y y (by omega)) (Ev.if_pos (by simp) ?_))
  exact Ev.bind t3 (Ev.bind (eqInt64S_ev z z (by omega)) (Ev.if_pos (by simp) (Ev.now _)))
end Go.Proofs.Ytcdkkdlaalbgiaa.Pure
