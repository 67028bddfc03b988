/- Equality, marking and holding of lists of numbers. Conditions: those that stand before each theorem. -/
import Derived.Test.YtaecdlhomihejaaQ1
import Derived.Test.YtaecdlhomihejaaQ2
import Derived.Test.YtaecdlhomihejaaQ7
import Derived.Test.YtaecdlhomihejaaEqInt64S
namespace Go.Proofs.Ytaecdlhomihejaa.Q
open Go.RowKit Go.Proofs.YtaecdlhomihejaaW.PrintWords
def marked (c : Int) (n : Nat) : List Int := (List.range n).map (fun i : Nat => c + (i : Int))
theorem marked_length (c : Int) (n : Nat) : (marked c n).length = n := by simp [marked]
theorem markInt64S_loop (l : List Int) (c0 : Int) (h0 : 0 ≤ c0) (hb : c0 + l.length ≤ 9223372036854775806) (d : Nat) : ∀ i : Nat, i ≤ l.length → l.length - i = d →
    Ev (fun k => laws_markInt64S.l0 k (marked c0 i ++ l.drop i) (c0 + i) i) (c0 + l.length, marked c0 l.length) := by
  induction d with
  | zero =>
    intro i h1 h2
    obtain rfl : i = l.length := by omega
    refine Ev.step (f := fun _ => some (c0 + (l.length : Int), marked c0 l.length)) (fun k => ?_) (Ev.now _)
    rw [laws_markInt64S.l0, if_neg (by simp [marked_length])]
    simp
  | succ d ih =>
    intro i h1 h2
    refine Ev.step (fun k => ?_) (ih (i + 1) (by omega) (by omega))
    have hl : (marked c0 i ++ l.drop i).length = l.length := by simp [marked_length]; omega
    rw [laws_markInt64S.l0, hl, if_pos (by omega), if_pos (by omega), wrap64_id (by omega) (by omega), wrap64_id (by omega) (by omega)]
    have e : (marked c0 i ++ l.drop i).set (i : Int).toNat (c0 + i) = marked c0 (i + 1) ++ l.drop (i + 1) := by
      rw [Int.toNat_natCast, List.set_append_right _ _ (by simp [marked_length])]
      rw [List.drop_eq_getElem_cons (by omega), marked_length, Nat.sub_self, List.set_cons_zero]
      simp [marked, List.range_succ]
    rw [e]
    have e2 : c0 + (i : Int) + 1 = c0 + ((i + 1 : Nat) : Int) := by omega
    rw [e2]
    rfl
theorem markInt64S_ev (l : List Int) (c : Int) (h0 : 0 ≤ c) (hb : c + l.length ≤ 9223372036854775806) : Ev (fun k => laws_markInt64S.f k l c) (c + l.length, marked c l.length) := by
  have h := markInt64S_loop l c h0 hb l.length 0 (by omega) (by omega)
  simpa [marked, laws_markInt64S.f] using h
theorem heldInt64S_loop (n : Nat) (c0 : Int) (h0 : 0 ≤ c0) (hb : c0 + n ≤ 9223372036854775806) (d : Nat) : ∀ i : Nat, i ≤ n → n - i = d →
    Ev (fun k => laws_heldInt64S.l0 k (marked c0 n) (c0 + i) i) (c0 + n) := by
  induction d with
  | zero =>
    intro i h1 h2
    obtain rfl : i = n := by omega
    refine Ev.step (f := fun _ => some (c0 + (i : Int))) (fun k => ?_) (Ev.now _)
    rw [laws_heldInt64S.l0, if_neg (by simp [marked_length])]
  | succ d ih =>
    intro i h1 h2
    refine Ev.step (fun k => ?_) (ih (i + 1) (by omega) (by omega))
    rw [laws_heldInt64S.l0, marked_length, if_pos (by omega), if_pos (by omega), rd_get _ _ (by rw [marked_length]; omega), if_pos (by simp [marked]), wrap64_id (by omega) (by omega), wrap64_id (by omega) (by omega)]
    have e2 : c0 + (i : Int) + 1 = c0 + ((i + 1 : Nat) : Int) := by omega
    rw [e2]
    rfl
theorem heldInt64S_ev (n : Nat) (c : Int) (h0 : 0 ≤ c) (hb : c + n ≤ 9223372036854775806) : Ev (fun k => laws_heldInt64S.f k (marked c n) c) (c + n) := by
  have h := heldInt64S_loop n c h0 hb n 0 (by omega) (by omega)
  simpa [laws_heldInt64S.f] using h
end Go.Proofs.Ytaecdlhomihejaa.Q
