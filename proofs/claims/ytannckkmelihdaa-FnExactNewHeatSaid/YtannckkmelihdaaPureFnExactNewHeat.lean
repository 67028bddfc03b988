/- The law FnExactNewHeat, as a statement over numbers and lists. No condition. -/
import Derived.Test.YtannckkmelihdaaSayFnExactNewHeat
import Derived.Test.YtannckkmelihdaaInOk
import Derived.Test.YtannckkmelihdaaInt64S
namespace Go.Proofs.Ytannckkmelihdaa.Pure
open Go.RowKit Go.Proofs.Ytannckkmelihdaa.Q Go.Proofs.YtannckkmelihdaaW.PrintWords
theorem newHeat_same (n : Int) : ∃ l w c, l.length ≤ 48 ∧ spec_NewHeat.f n = some (l, w, c) ∧ impl_NewHeat.f n = some (l, w, c) := by
  unfold spec_NewHeat.f impl_NewHeat.f spec_l13New.f
  simp only [l00In_eq, within_eq, Option.bind_some]
  by_cases h : 1 ≤ n ∧ n ≤ 48
  · refine ⟨List.replicate n.toNat 0, 0, 0, by simp; omega, ?_, ?_⟩
    · simp only [h, and_self, decide_true, if_true]
      rw [if_pos (by omega), if_pos (by omega)]
      rfl
    · simp only [h, and_self, decide_true, if_true]
      rw [if_pos (by omega), if_pos (by omega)]
  · exact ⟨[], 0, 2, by simp, by simp [h], by simp [h]⟩
theorem FnExactNewHeat : laws_FnExactNewHeat.Pure := by
  intro n _
  obtain ⟨l, w, c, hl, h1, h2⟩ := newHeat_same n
  obtain ⟨K1, e1⟩ := eqInt64S_ev l l (by omega)
  obtain ⟨K2, e2⟩ := markInt64S_ev l 1 (by omega) (by omega)
  obtain ⟨K3, e3⟩ := heldInt64S_ev l.length 1 (by omega) (by omega)
  dsimp only at e1 e2 e3
  refine ⟨K1 + K2 + K3 + 2, ?_⟩
  have hE : ∀ k, K1 ≤ k → laws_eqHeat.f k l w l w = some true := fun k hk => by unfold laws_eqHeat.f; rw [e1 k hk]; simp
  have hM : ∀ k, K2 ≤ k → laws_markHeat.f k l w 1 = some (1 + (l.length : Int), marked 1 l.length) := fun k hk => by unfold laws_markHeat.f; rw [e2 k hk]; rfl
  have hH : ∀ k, K3 ≤ k → laws_heldHeat.f k (marked 1 l.length) w 1 = some (1 + (l.length : Int)) := fun k hk => by unfold laws_heldHeat.f; rw [e3 k hk]; simp only [Option.bind_some]; rw [if_neg (by omega)]
  unfold laws_FnExactNewHeat.f
  simp only [h1, h2, Option.bind_some]
  rw [hE _ (by omega)]
  simp only [Option.bind_some, if_true]
  rw [laws_FnExactNewHeat.j0]
  simp only [bne_self_eq_false, Bool.false_eq_true, if_false]
  rw [hM _ (by omega)]
  simp only [Option.bind_some]
  rw [hH _ (by omega)]
  simp only [Option.bind_some, if_true]
  rw [if_neg (by omega), h2]
  simp only [Option.bind_some]
  rw [hE _ (by omega)]
  simp only [Option.bind_some, if_true]
  rw [laws_FnExactNewHeat.j1]
  simp only [bne_self_eq_false, Bool.false_eq_true, if_false]
  rw [hH _ (by omega)]
  simp only [Option.bind_some, if_true]
  rw [if_neg (by omega)]
end Go.Proofs.Ytannckkmelihdaa.Pure
