/- The size, copy and equality of a heat. Conditions: those that stand before each theorem. -/
import Derived.Test.YtaecdlhomihejaaQ2
import Derived.Test.YtaecdlhomihejaaQ3
import Derived.Test.YtaecdlhomihejaaQ5
import Derived.Test.YtaecdlhomihejaaInt64C
import Derived.Test.YtaecdlhomihejaaEqInt64S
namespace Go.Proofs.Ytaecdlhomihejaa.Q
open Go.RowKit Go.Proofs.YtaecdlhomihejaaW.PrintWords
theorem szHeat_some (l : List Int) (x n : Int) (hl : l.length ≤ 9223372036854775807) (h0 : 0 ≤ n) (h1 : n ≤ 1048576) :
    ∃ r, laws_szHeat.f l x n = some r ∧ r ≤ n ∧ (0 ≤ r → r + l.length ≤ n) := by
  unfold laws_szHeat.f
  obtain ⟨r, e, a, b, c⟩ := szInt64S_some l n hl (by omega) h1
  rw [e, Option.bind_some]
  by_cases h : r < 0
  · rw [if_pos h]; exact ⟨_, rfl, by omega, by omega⟩
  · rw [if_neg h]; exact ⟨_, rfl, b, c⟩
theorem toHeat_ev (l : List Int) (x : Int) (hl : l.length ≤ 35184372088832) : Ev (fun k => laws_toHeat.f k l x) (l, x) := by
  unfold laws_toHeat.f
  exact Ev.bind (toInt64S_ev l hl) (Ev.now _)
theorem eqHeat_ev (l m : List Int) (x y : Int) (hl : l.length ≤ 9223372036854775806) : Ev (fun k => laws_eqHeat.f k l x m y) (decide (l = m ∧ x = y)) := by
  unfold laws_eqHeat.f
  refine Ev.bind (eqInt64S_ev l m hl) ?_
  by_cases h : l = m
  · refine Ev.if_pos (decide_eq_true h) ?_
    by_cases h2 : x = y
    · rw [decide_eq_true (⟨h, h2⟩ : l = m ∧ x = y)]
      exact Ev.if_pos h2 (Ev.now _)
    · rw [decide_eq_false (fun q : l = m ∧ x = y => h2 q.2)]
      exact Ev.if_neg h2 (Ev.now _)
  · rw [decide_eq_false (fun q : l = m ∧ x = y => h q.1)]
    exact Ev.if_neg (by rw [decide_eq_false h]; decide) (Ev.now _)
theorem eqHeat_self (l : List Int) (x : Int) (hl : l.length ≤ 9223372036854775806) : Ev (fun k => laws_eqHeat.f k l x l x) true := by
  have h := eqHeat_ev l l x x hl
  rw [decide_eq_true (⟨rfl, rfl⟩ : l = l ∧ x = x)] at h
  exact h
end Go.Proofs.Ytaecdlhomihejaa.Q
