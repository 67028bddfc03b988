/- The entries of a run's body, read again by the program. Conditions: those before each theorem. -/
import Derived.Test.YtogndjjoeahccaaEntDec
namespace Go.Proofs.Ytogndjjoeahccaa.Q
open Go.RowKit Go.Proofs.YtogndjjoeahccaaW.PrintWords
set_option linter.unusedVariables false
def bodyT (l : List S49) : Nat → Nat → List UInt8
  | _, 0 => []
  | i, d + 1 => (entB l i).data.toList ++ bodyT l (i + 1) d
theorem body_split (l : List S49) : ∀ d i, bodyB l (i + d) = bodyB l i ++ bodyT l i d
  | 0, i => by simp [bodyT]
  | d + 1, i => by
    rw [show i + (d + 1) = (i + 1) + d from by omega, body_split l d (i + 1), show bodyB l (i + 1) = bodyB l i ++ (entB l i).data.toList from rfl, List.append_assoc]
    rfl
theorem take_bt (s t : ByteArray) (n : Nat) (hs : n ≤ s.size) (ht : n ≤ t.size) (h : ∀ j : Nat, j < n → bt s (j : Int) = bt t (j : Int)) : s.data.toList.take n = t.data.toList.take n := by
  apply List.ext_getElem
  · simp only [List.length_take, data_length]; omega
  · intro j h1 h2
    rw [List.getElem_take, List.getElem_take]
    have hj : j < n := by rw [List.length_take] at h1; omega
    have e := h j hj
    rw [bt_get s j (by omega), bt_get t j (by omega)] at e
    have e2 : (s[j]'(by omega)).toNat = (t[j]'(by omega)).toNat := by omega
    exact UInt8.toNat_inj.1 e2
theorem head_same (l : List S49) (ho : ∀ j : Nat, j < l.length → okX (rd_T49 l (j : Int)) = true) (i : Nat) (hi : i < l.length) (key : ByteArray) (hk : ¬ i % 4 = 0 → key = (rd_T49 l ((i - 1 : Nat) : Int)).f0) :
    nSh l i ≤ (rd_T49 l (i : Int)).f0.size ∧ nSh l i ≤ key.size ∧ key.data.toList.take (nSh l i) = (rd_T49 l (i : Int)).f0.data.toList.take (nSh l i) := by
  unfold nSh
  by_cases h : i % 4 = 0
  · rw [if_pos h]
    exact ⟨Nat.zero_le _, Nat.zero_le _, by simp⟩
  · rw [if_neg h, hk h]
    have h1 := ok_parts _ (ho (i - 1) (by omega))
    have h2 : (rd_T49 l ((i - 1 : Nat) : Int)).f0.size ≤ 140737488351232 := by omega
    obtain ⟨h3, h4⟩ := shared_le _ (rd_T49 l (i : Int)).f0 h2
    exact ⟨h4, h3, take_bt _ _ _ h3 h4 fun j hj => shared_eq _ _ h2 j hj⟩
theorem ents_loop (l : List S49) (ho : ∀ j : Nat, j < l.length → okX (rd_T49 l (j : Int)) = true) : ∀ (d i : Nat) (y key : ByteArray) (fuel : Nat), i + d = l.length → y.data.toList = bodyT l i d → (¬ i % 4 = 0 → key = (rd_T49 l ((i - 1 : Nat) : Int)).f0) → y.size < fuel → pEnt fuel y (l.take i) key = (l, true)
  | 0, i, y, key, fuel, hi, hy, hk, hf => by
    cases fuel with
    | zero => omega
    | succ f =>
      have h0 : y.size = 0 := by rw [← data_length, hy]; rfl
      unfold pEnt
      rw [if_pos h0, show i = l.length from by omega, List.take_length]
  | d + 1, i, y, key, fuel, hi, hy, hk, hf => by
    cases fuel with
    | zero => omega
    | succ f =>
      have hil : i < l.length := by omega
      obtain ⟨h1, h2, h3⟩ := head_same l ho i hil key hk
      obtain ⟨e1, e2, e3, e4, e5, e6, e7⟩ := ent_read (rd_T49 l (i : Int)) (nSh l i) ⟨(bodyT l (i + 1) d).toArray⟩ key y (by rw [hy]; rfl) (ho i hil) h1 h2 h3
      have ih := ents_loop l ho d (i + 1) ⟨(bodyT l (i + 1) d).toArray⟩ (rd_T49 l (i : Int)).f0 f (by omega) rfl (fun _ => by rw [Nat.add_sub_cancel]) (by omega)
      unfold pEnt
      rw [if_neg (by omega), if_neg (by omega), e2, e3, e4, if_neg (by omega), if_neg (by omega), e5, e6, e7]
      rw [List.take_succ_eq_append_getElem hil, ← rd_getX l i hil] at ih
      exact ih
theorem ents_body (l : List S49) (ho : ∀ j : Nat, j < l.length → okX (rd_T49 l (j : Int)) = true) (y : ByteArray) (hy : y.data.toList = bodyB l l.length) : pEnt (y.size + 1) y [] ⟨#[]⟩ = (l, true) := by
  have h := ents_loop l ho l.length 0 y ⟨#[]⟩ (y.size + 1) (by omega) (by rw [hy]; have := body_split l l.length 0; rw [Nat.zero_add] at this; rw [this]; rfl) (fun h => absurd rfl h) (by omega)
  exact h
end Go.Proofs.Ytogndjjoeahccaa.Q
