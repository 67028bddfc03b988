/- Blocks marked are held: what marking leaves reads back to the same count. Conditions: those that stand before each theorem. -/
import Derived.Test.YtaecdlhomihejaaMarkT
import Derived.Test.YtaecdlhomihejaaXMarkB
import Derived.Test.YtaecdlhomihejaaQ7
namespace Go.Proofs.Ytaecdlhomihejaa.Q
open Go.RowKit Go.Proofs.YtaecdlhomihejaaW.PrintWords
set_option linter.unusedVariables false
theorem lenb_lt (pre : List S120) (x : S120) (xs : List S120) : (pre.length : Int) < ((pre ++ x :: xs).length : Int) := by
  rw [List.length_append, List.length_cons]; omega
theorem rdb_at (pre : List S120) (x : S120) (xs : List S120) : rd_T120 (pre ++ x :: xs) (pre.length : Int) = x := by simp [rd_T120]
def markBx (c : Int) (n : Nat) : S120 := ⟨c, c + 1, Int.tmod (c + 2) 3 == 0, markedT mtx (c + 3) n⟩
theorem markB_loop (P : Nat) : ∀ (rest pre : List S120) (c : Int), 0 ≤ c → (∀ x ∈ rest, x.f3.length ≤ P) → pre.length + rest.length ≤ 9223372036854775806 → c + (rest.length : Int) * (3 + P) ≤ 9223372036854775800 →
    ∃ m rest', rest'.length = rest.length ∧ c ≤ m ∧ m ≤ c + (rest.length : Int) * (3 + P) ∧ Ev (fun k => laws_markBlockS.l0 k (pre ++ rest) c (pre.length : Int)) (m, pre ++ rest') ∧ Ev (fun k => laws_heldBlockS.l0 k (pre ++ rest') c (pre.length : Int)) m
  | [], pre, c, h0, hx, hl, hb => by
    refine ⟨c, [], rfl, by omega, by simp, ?_, ?_⟩
    · refine Ev.step (f := fun _ => some (c, pre ++ [])) (fun k => ?_) (Ev.now _)
      rw [laws_markBlockS.l0, if_neg (by simp)]
    · refine Ev.step (f := fun _ => some c) (fun k => ?_) (Ev.now _)
      rw [laws_heldBlockS.l0, if_neg (by simp)]
  | x :: xs, pre, c, h0, hx, hl, hb => by
    have hp : x.f3.length ≤ P := hx x List.mem_cons_self
    have hmul : ((x :: xs).length : Int) * (3 + (P : Int)) = (xs.length : Int) * (3 + (P : Int)) + (3 + (P : Int)) := by
      rw [List.length_cons, Int.natCast_add, Int.add_mul]; simp
    have hnn : 0 ≤ (xs.length : Int) * (3 + (P : Int)) := Int.mul_nonneg (by omega) (by omega)
    rw [hmul] at hb
    rw [List.length_cons] at hl
    have hlen : (pre ++ [markBx c x.f3.length]).length = pre.length + 1 := by simp
    obtain ⟨m, rest', e1, e2, e3, e4, e5⟩ := markB_loop P xs (pre ++ [markBx c x.f3.length]) (c + 3 + x.f3.length) (by omega) (fun y hy => hx y (List.mem_cons_of_mem _ hy)) (by rw [hlen]; omega) (by omega)
    rw [List.append_assoc, hlen] at e4 e5
    rw [List.append_assoc] at e4
    have w1 : wrap64 (c + 1) = c + 1 := wrap64_id (by omega) (by omega)
    have w2 : wrap64 (c + 1 + 1) = c + 2 := by rw [wrap64_id (by omega) (by omega)]; omega
    have w3 : wrap64 (c + 2 + 1) = c + 3 := by rw [wrap64_id (by omega) (by omega)]; omega
    have wi : wrap64 ((pre.length : Int) + 1) = ((pre.length + 1 : Nat) : Int) := by rw [wrap64_id (by omega) (by omega)]; rfl
    refine ⟨m, markBx c x.f3.length :: rest', by simp [e1], by omega, by rw [hmul]; omega, ?_, ?_⟩
    · refine Ev.step (f := fun k => (laws_markStringS.f k x.f3 (c + 3)).bind fun bt => laws_markBlockS.l0 k (pre ++ (⟨c, c + 1, Int.tmod (c + 2) 3 == 0, bt.2⟩ : S120) :: xs) bt.1 ((pre.length + 1 : Nat) : Int)) (fun k => ?_) (Ev.bind (markStringS_ev x.f3 (c + 3) (by omega) (by omega)) e4)
      rw [laws_markBlockS.l0, if_pos (lenb_lt _ _ _), if_pos (Int.natCast_nonneg _), rdb_at, w1, w2, w3, wi, Int.toNat_natCast]
      congr 1
      funext bt
      rw [List.set_append_right _ _ (Nat.le_refl _), Nat.sub_self, List.set_cons_zero]
    · have hs := heldStringS_ev x.f3.length (c + 3) (by omega) (by omega)
      refine Ev.step (f := fun k => (laws_heldStringS.f k (markedT mtx (c + 3) x.f3.length) (c + 3)).bind fun t => if t < 0 then some (-1) else laws_heldBlockS.l0 k (pre ++ markBx c x.f3.length :: rest') t ((pre.length + 1 : Nat) : Int)) (fun k => ?_) (Ev.bind hs (Ev.if_neg (by omega) e5))
      rw [laws_heldBlockS.l0, if_pos (lenb_lt _ _ _), if_pos (Int.natCast_nonneg _), rdb_at, w1, w2, w3, wi, if_pos (by rfl), if_pos (by rfl), if_neg (by simp [markBx])]
      rfl
theorem markB_ev (P : Nat) (l : List S120) (c : Int) (h0 : 0 ≤ c) (hx : ∀ x ∈ l, x.f3.length ≤ P) (hl : l.length ≤ 9223372036854775806) (hb : c + (l.length : Int) * (3 + P) ≤ 9223372036854775800) :
    ∃ m l', l'.length = l.length ∧ c ≤ m ∧ m ≤ c + (l.length : Int) * (3 + P) ∧ Ev (fun k => laws_markBlockS.f k l c) (m, l') ∧ Ev (fun k => laws_heldBlockS.f k l' c) m := by
  obtain ⟨m, l', e1, e2, e3, e4, e5⟩ := markB_loop P l [] c h0 hx (by simpa using hl) hb
  exact ⟨m, l', e1, e2, e3, e4, e5⟩
end Go.Proofs.Ytaecdlhomihejaa.Q
