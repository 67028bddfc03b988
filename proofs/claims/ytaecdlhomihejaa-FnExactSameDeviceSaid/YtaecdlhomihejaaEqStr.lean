/- slices.Equal over strings, and over truth values; lists compared element by element. Conditions: those before each theorem. -/
import Derived.Test.YtaecdlhomihejaaQ8
import Derived.Test.YtaecdlhomihejaaNum
import Derived.Lib.Bytes
namespace Go.Proofs.Ytaecdlhomihejaa.Q
open Go.RowKit Go.Proofs.YtaecdlhomihejaaW.PrintWords
theorem str_eq (a b : ByteArray) : a.toList = b.toList ↔ a = b := by
  constructor
  · intro h
    rw [Lib.toList_data, Lib.toList_data] at h
    exact ByteArray.ext (Array.ext' h)
  · intro h; rw [h]
theorem equalStr_loop (l m : List ByteArray) (hl : l.length = m.length) (hb : l.length ≤ 9223372036854775807) (d : Nat) : ∀ i : Nat, i ≤ l.length → l.length - i = d →
    Ev (fun k => slices_Equal_string_string.l0 k l m (l.length : Int) i) (decide (l.drop i = m.drop i)) := by
  induction d with
  | zero =>
    intro i h1 h2
    have e : decide (l.drop i = m.drop i) = true := by rw [List.drop_of_length_le (by omega), List.drop_of_length_le (by omega)]; rfl
    rw [e]
    refine Ev.step (f := fun _ => some true) (fun k => ?_) (Ev.now _)
    rw [slices_Equal_string_string.l0, if_neg (by omega)]
  | succ d ih =>
    intro i h1 h2
    have e1 : l.drop i = l[i] :: l.drop (i + 1) := List.drop_eq_getElem_cons (by omega)
    have e2 : m.drop i = m[i] :: m.drop (i + 1) := List.drop_eq_getElem_cons (by omega)
    by_cases h : l[i] = m[i]
    · have e : decide (l.drop i = m.drop i) = decide (l.drop (i + 1) = m.drop (i + 1)) := by
        rw [e1, e2, h]
        exact decide_eq_decide.2 ⟨fun q => (List.cons.inj q).2, fun q => by rw [q]⟩
      rw [e]
      refine Ev.step (fun k => ?_) (ih (i + 1) (by omega) (by omega))
      rw [slices_Equal_string_string.l0, if_pos (by omega), if_pos (by omega), if_pos (by omega), if_pos (by omega), rdOf_get _ l i (by omega), rdOf_get _ m i (by omega), if_pos ((str_eq _ _).2 h), wrap64_id (by omega) (by omega)]
      rfl
    · have e : decide (l.drop i = m.drop i) = false := decide_eq_false (by rw [e1, e2]; exact fun q => h (List.cons.inj q).1)
      rw [e]
      refine Ev.step (f := fun _ => some false) (fun k => ?_) (Ev.now _)
      rw [slices_Equal_string_string.l0, if_pos (by omega), if_pos (by omega), if_pos (by omega), if_pos (by omega), rdOf_get _ l i (by omega), rdOf_get _ m i (by omega), if_neg (fun q => h ((str_eq _ _).1 q))]
theorem equalStr_ev (l m : List ByteArray) (hb : l.length ≤ 9223372036854775807) : Ev (fun k => slices_Equal_string_string.f k l m) (decide (l = m)) := by
  by_cases hl : l.length = m.length
  · have h := equalStr_loop l m hl hb l.length 0 (by omega) (by omega)
    obtain ⟨K, h⟩ := h
    refine ⟨K, fun k hk => ?_⟩
    have h2 := h k hk
    simp only [List.drop_zero] at h2
    show slices_Equal_string_string.f k l m = _
    unfold slices_Equal_string_string.f
    rw [if_pos (by omega)]
    exact h2
  · have e : decide (l = m) = false := by simp; intro h; exact hl (by rw [h])
    rw [e]
    refine ⟨0, fun k _ => ?_⟩
    show slices_Equal_string_string.f k l m = _
    unfold slices_Equal_string_string.f
    rw [if_neg (by omega)]
def eqAll {α β : Type} (p : α → β → Bool) : List α → List β → Bool
  | [], [] => true
  | x :: xs, y :: ys => p x y && eqAll p xs ys
  | _, _ => false
theorem eqAll_len {α β : Type} {p : α → β → Bool} : ∀ {l : List α} {m : List β}, l.length ≠ m.length → eqAll p l m = false
  | [], [], h => absurd rfl h
  | [], _ :: _, _ => rfl
  | _ :: _, [], _ => rfl
  | x :: xs, y :: ys, h => by
    simp only [List.length_cons, ne_eq, Nat.add_right_cancel_iff] at h
    rw [eqAll, eqAll_len h, Bool.and_false]
theorem eqAll_drop {α β : Type} (p : α → β → Bool) (l : List α) (m : List β) (i : Nat) (hl : i < l.length) (hm : i < m.length) : eqAll p (l.drop i) (m.drop i) = (p l[i] m[i] && eqAll p (l.drop (i + 1)) (m.drop (i + 1))) := by
  rw [List.drop_eq_getElem_cons hl, List.drop_eq_getElem_cons hm, eqAll]
end Go.Proofs.Ytaecdlhomihejaa.Q
