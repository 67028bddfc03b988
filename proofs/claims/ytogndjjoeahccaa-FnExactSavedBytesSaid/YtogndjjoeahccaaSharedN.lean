/- The two counts of a shared beginning come to one number; what it says of the two strings. Conditions: those before each theorem. -/
import Derived.Test.YtogndjjoeahccaaQ3
import Derived.Test.YtogndjjoeahccaaQ8
import Derived.Test.YtogndjjoeahccaaNum
namespace Go.Proofs.Ytogndjjoeahccaa.Q
open Go.RowKit Go.Proofs.YtogndjjoeahccaaW.PrintWords
set_option linter.unusedVariables false
def shN (s t : ByteArray) : Nat → Nat → Nat
  | 0, i => i
  | d + 1, i => if i < t.size then (if bt s (i : Int) = bt t (i : Int) then shN s t d (i + 1) else i) else i
def sharedN (s t : ByteArray) : Nat := shN s t s.size 0
theorem shN_ev (s t : ByteArray) (hs : s.size ≤ 140737488351232) (d : Nat) : ∀ i : Nat, i ≤ s.size → i ≤ t.size → s.size - i = d →
    Ev (fun k => spec_l20Shared.l0 k s t i) ((shN s t d i : Nat) : Int) ∧ Ev (fun k => impl_SharedPrefix.l0 k s t i) ((shN s t d i : Nat) : Int) ∧ i ≤ shN s t d i ∧ shN s t d i ≤ s.size ∧ shN s t d i ≤ t.size ∧ ∀ j, i ≤ j → j < shN s t d i → bt s (j : Int) = bt t (j : Int) := by
  induction d with
  | zero =>
    intro i h1 h2 h3
    refine ⟨Ev.step (f := fun _ => some (i : Int)) (fun k => ?_) (Ev.now _), Ev.step (f := fun _ => some (i : Int)) (fun k => ?_) (Ev.now _), Nat.le_refl _, h1, h2, fun j h4 h5 => absurd h5 (by show ¬ j < i; omega)⟩
    · rw [spec_l20Shared.l0, if_neg (by omega)]
    · rw [impl_SharedPrefix.l0, if_neg (by omega)]
  | succ d ih =>
    intro i h1 h2 h3
    unfold shN
    by_cases h4 : i < t.size
    · rw [if_pos h4]
      by_cases h5 : bt s i = bt t i
      · rw [if_pos h5]
        obtain ⟨p1, p2, p3, p4, p5, p6⟩ := ih (i + 1) (by omega) (by omega) (by omega)
        refine ⟨Ev.step (fun k => ?_) p1, Ev.step (fun k => ?_) p2, by omega, p4, p5, fun j h6 h7 => ?_⟩
        · rw [spec_l20Shared.l0, if_pos (by omega), if_pos (by omega), if_pos (by omega), if_pos h5, wrap64_id (by omega) (by omega)]
          rfl
        · rw [impl_SharedPrefix.l0, if_pos (by omega), if_pos (by omega), if_pos (by omega), if_pos h5, wrap64_id (by omega) (by omega)]
          rfl
        · by_cases e : j = i
          · subst e; exact h5
          · exact p6 j (by omega) h7
      · rw [if_neg h5]
        refine ⟨Ev.step (f := fun _ => some (i : Int)) (fun k => ?_) (Ev.now _), Ev.step (f := fun _ => some (i : Int)) (fun k => ?_) (Ev.now _), Nat.le_refl _, h1, h2, fun j h6 h7 => absurd h7 (by omega)⟩
        · rw [spec_l20Shared.l0, if_pos (by omega), if_pos (by omega), if_pos (by omega), if_neg h5]
        · rw [impl_SharedPrefix.l0, if_pos (by omega), if_pos (by omega), if_pos (by omega), if_neg h5]
    · rw [if_neg h4]
      refine ⟨Ev.step (f := fun _ => some (i : Int)) (fun k => ?_) (Ev.now _), Ev.step (f := fun _ => some (i : Int)) (fun k => ?_) (Ev.now _), Nat.le_refl _, h1, h2, fun j h6 h7 => absurd h7 (by omega)⟩
      · rw [spec_l20Shared.l0, if_pos (by omega), if_neg (by omega)]
      · rw [impl_SharedPrefix.l0, if_pos (by omega), if_neg (by omega)]
theorem specShared_ev (s t : ByteArray) (hs : s.size ≤ 140737488351232) : Ev (fun k => spec_l20Shared.f k s t) ((sharedN s t : Nat) : Int) := (shN_ev s t hs s.size 0 (by omega) (by omega) (by omega)).1
theorem implShared_ev (s t : ByteArray) (hs : s.size ≤ 140737488351232) : Ev (fun k => impl_SharedPrefix.f k s t) ((sharedN s t : Nat) : Int) := (shN_ev s t hs s.size 0 (by omega) (by omega) (by omega)).2.1
theorem shared_le (s t : ByteArray) (hs : s.size ≤ 140737488351232) : sharedN s t ≤ s.size ∧ sharedN s t ≤ t.size :=
  let h := shN_ev s t hs s.size 0 (by omega) (by omega) (by omega)
  ⟨h.2.2.2.1, h.2.2.2.2.1⟩
theorem shared_eq (s t : ByteArray) (hs : s.size ≤ 140737488351232) (j : Nat) (h : j < sharedN s t) : bt s (j : Int) = bt t (j : Int) :=
  (shN_ev s t hs s.size 0 (by omega) (by omega) (by omega)).2.2.2.2.2 j (by omega) h
end Go.Proofs.Ytogndjjoeahccaa.Q
