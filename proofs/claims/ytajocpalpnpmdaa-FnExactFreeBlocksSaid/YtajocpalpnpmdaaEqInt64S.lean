/- Equality of lists of numbers. Conditions: those that stand before each theorem. -/
import Derived.Test.YtajocpalpnpmdaaQ6
import Derived.Test.YtajocpalpnpmdaaNum
namespace Go.Proofs.Ytajocpalpnpmdaa.Q
open Go.RowKit Go.Proofs.YtajocpalpnpmdaaW.PrintWords
theorem eqInt64S_loop (l m : List Int) (hl : l.length = m.length) (hb : l.length ≤ 9223372036854775806) (d : Nat) : ∀ i : Nat, i ≤ l.length → l.length - i = d →
    Ev (fun k => laws_eqInt64S.l0 k l m i) (decide (l.drop i = m.drop i)) := by
  induction d with
  | zero =>
    intro i h1 h2
    have e : decide (l.drop i = m.drop i) = true := by rw [List.drop_of_length_le (by omega), List.drop_of_length_le (by omega)]; rfl
    rw [e]
    refine Ev.step (f := fun _ => some true) (fun k => ?_) (Ev.now _)
    rw [laws_eqInt64S.l0, if_neg (by omega)]
  | succ d ih =>
    intro i h1 h2
    have e1 : l.drop i = l[i] :: l.drop (i + 1) := List.drop_eq_getElem_cons (by omega)
    have e2 : m.drop i = m[i] :: m.drop (i + 1) := List.drop_eq_getElem_cons (by omega)
    by_cases h : l[i] = m[i]
    · have e : decide (l.drop i = m.drop i) = decide (l.drop (i + 1) = m.drop (i + 1)) := by
        rw [e1, e2, h]
        exact decide_eq_decide.2 ⟨fun q => (List.cons.inj q).2, fun q => by rw [q]⟩
      rw [e]
      refine Ev.step (fun k => ?_) (ih (i + 1) (by omega) (by omega))
      rw [laws_eqInt64S.l0, if_pos (by omega), if_pos (by omega), if_pos (by omega), rd_get l i (by omega), rd_get m i (by omega), if_pos h, wrap64_id (by omega) (by omega)]
      rfl
    · have e : decide (l.drop i = m.drop i) = false := decide_eq_false (by rw [e1, e2]; exact fun q => h (List.cons.inj q).1)
      rw [e]
      refine Ev.step (f := fun _ => some false) (fun k => ?_) (Ev.now _)
      rw [laws_eqInt64S.l0, if_pos (by omega), if_pos (by omega), if_pos (by omega), rd_get l i (by omega), rd_get m i (by omega), if_neg h]
theorem eqInt64S_ev (l m : List Int) (hb : l.length ≤ 9223372036854775806) : Ev (fun k => laws_eqInt64S.f k l m) (decide (l = m)) := by
  by_cases hl : l.length = m.length
  · have h := eqInt64S_loop l m hl hb l.length 0 (by omega) (by omega)
    obtain ⟨K, h⟩ := h
    refine ⟨K, fun k hk => ?_⟩
    have h2 := h k hk
    simp only [List.drop_zero] at h2
    show laws_eqInt64S.f k l m = _
    unfold laws_eqInt64S.f
    rw [if_pos (by omega)]
    exact h2
  · have e : decide (l = m) = false := by simp; intro h; exact hl (by rw [h])
    rw [e]
    refine ⟨0, fun k _ => ?_⟩
    show laws_eqInt64S.f k l m = _
    unfold laws_eqInt64S.f
    rw [if_neg (by omega)]
end Go.Proofs.Ytajocpalpnpmdaa.Q
