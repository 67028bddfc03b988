/- The two counts of a shared beginning come to one number, no greater than either length. Conditions: both strings are within the reach. -/
import Derived.Test.YtannckkmelihdaaQ1
import Derived.Test.YtannckkmelihdaaQ1
import Derived.Test.YtannckkmelihdaaNum
namespace Go.Proofs.Ytannckkmelihdaa.Q
open Go.RowKit Go.Proofs.YtannckkmelihdaaW.PrintWords
theorem shared_loop (s t : ByteArray) (hs : s.size ≤ 140737488351232) (d : Nat) : ∀ i : Nat, i ≤ s.size → i ≤ t.size → s.size - i = d →
    ∃ r : Nat, Ev (fun k => spec_l20Shared.l0 k s t i) r ∧ Ev (fun k => impl_SharedPrefix.l0 k s t i) r ∧ r ≤ s.size ∧ r ≤ t.size := by
  induction d with
  | zero =>
    intro i h1 h2 h3
    refine ⟨i, Ev.step (f := fun _ => some (i : Int)) (fun k => ?_) (Ev.now _), Ev.step (f := fun _ => some (i : Int)) (fun k => ?_) (Ev.now _), by omega, by omega⟩
    · rw [spec_l20Shared.l0, if_neg (by omega)]
    · rw [impl_SharedPrefix.l0, if_neg (by omega)]
  | succ d ih =>
    intro i h1 h2 h3
    by_cases h4 : i < t.size
    · by_cases h5 : bt s i = bt t i
      · obtain ⟨r, p1, p2, p3⟩ := ih (i + 1) (by omega) (by omega) (by omega)
        refine ⟨r, Ev.step (fun k => ?_) p1, Ev.step (fun k => ?_) p2, p3⟩
        · rw [spec_l20Shared.l0, if_pos (by omega), if_pos (by omega), if_pos (by omega), if_pos h5, wrap64_id (by omega) (by omega)]
          rfl
        · rw [impl_SharedPrefix.l0, if_pos (by omega), if_pos (by omega), if_pos (by omega), if_pos h5, wrap64_id (by omega) (by omega)]
          rfl
      · refine ⟨i, Ev.step (f := fun _ => some (i : Int)) (fun k => ?_) (Ev.now _), Ev.step (f := fun _ => some (i : Int)) (fun k => ?_) (Ev.now _), by omega, by omega⟩
        · rw [spec_l20Shared.l0, if_pos (by omega), if_pos (by omega), if_pos (by omega), if_neg h5]
        · rw [impl_SharedPrefix.l0, if_pos (by omega), if_pos (by omega), if_pos (by omega), if_neg h5]
    · refine ⟨i, Ev.step (f := fun _ => some (i : Int)) (fun k => ?_) (Ev.now _), Ev.step (f := fun _ => some (i : Int)) (fun k => ?_) (Ev.now _), by omega, by omega⟩
      · rw [spec_l20Shared.l0, if_pos (by omega), if_neg (by omega)]
      · rw [impl_SharedPrefix.l0, if_pos (by omega), if_neg (by omega)]
theorem shared_same (s t : ByteArray) (hs : s.size ≤ 140737488351232) : ∃ r : Nat, Ev (fun k => spec_l20Shared.f k s t) r ∧ Ev (fun k => impl_SharedPrefix.f k s t) r ∧ r ≤ s.size ∧ r ≤ t.size :=
  shared_loop s t hs s.size 0 (by omega) (by omega) (by omega)
end Go.Proofs.Ytannckkmelihdaa.Q
