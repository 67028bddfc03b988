/- A list of records equals itself. Conditions: those that stand before each theorem. -/
import Derived.Test.YtogndjjoeahccaaQ5
import Derived.Test.YtogndjjoeahccaaNum
namespace Go.Proofs.Ytogndjjoeahccaa.Q
open Go.RowKit Go.Proofs.YtogndjjoeahccaaW.PrintWords
set_option linter.unusedVariables false
theorem rdI_get (l : List S49) (i : Nat) (h : i < l.length) : rd_T49 l (i : Int) = l[i] := by simp [rd_T49, h]
theorem eqRecord_self (a : ByteArray) (b c : Int) (d e : ByteArray) : laws_eqRecord.f a b c d e a b c d e = some true := by
  unfold laws_eqRecord.f
  rw [if_pos rfl, if_pos rfl, if_pos rfl, if_pos rfl, if_pos rfl]
theorem eqRecordS_loop (l : List S49) (hl : l.length ≤ 9223372036854775806) (d : Nat) : ∀ i : Nat, i ≤ l.length → l.length - i = d → Ev (fun k => laws_eqRecordS.l0 k l l i) true := by
  induction d with
  | zero =>
    intro i h1 h2
    refine Ev.step (f := fun _ => some true) (fun k => ?_) (Ev.now _)
    rw [laws_eqRecordS.l0, if_neg (by omega)]
  | succ d ih =>
    intro i h1 h2
    refine Ev.step (fun k => ?_) (ih (i + 1) (by omega) (by omega))
    rw [laws_eqRecordS.l0, if_pos (by omega), if_pos (by omega), if_pos (by omega), eqRecord_self]
    simp only [Option.bind_some, if_true]
    rw [wrap64_id (by omega) (by omega)]
    rfl
theorem eqRecordS_self (l : List S49) (hl : l.length ≤ 9223372036854775806) : Ev (fun k => laws_eqRecordS.f k l l) true := by
  obtain ⟨K, h⟩ := eqRecordS_loop l hl l.length 0 (by omega) (by omega)
  refine ⟨K, fun k hk => ?_⟩
  have h1 := h k hk
  dsimp only at h1 ⊢
  unfold laws_eqRecordS.f
  rw [if_pos rfl]
  exact h1
end Go.Proofs.Ytogndjjoeahccaa.Q
