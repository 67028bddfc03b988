/- Zones marked are held. Conditions: those that stand before each theorem; the zones' Rows and Buffer are empty. -/
import Derived.Test.YtaecdlhomihejaaMarkBP
import Derived.Test.YtaecdlhomihejaaXMarkZ
import Derived.Test.YtaecdlhomihejaaInt64S
import Derived.Test.YtaecdlhomihejaaQ8
namespace Go.Proofs.Ytaecdlhomihejaa.Q
open Go.RowKit Go.Proofs.YtaecdlhomihejaaW.PrintWords
set_option linter.unusedVariables false
theorem lenz_lt (pre : List S132) (x : S132) (xs : List S132) : (pre.length : Int) < ((pre ++ x :: xs).length : Int) := by
  rw [List.length_append, List.length_cons]; omega
theorem rdz_at (pre : List S132) (x : S132) (xs : List S132) : rd_T132 (pre ++ x :: xs) (pre.length : Int) = x := by simp [rd_T132]
def markZx (c : Int) (n : Nat) : S132 := ⟨c, marked (c + 1) n, c + 1 + n, c + 1 + n + 1, [], []⟩
theorem heldI_nil (c : Int) : Ev (fun k => laws_heldInt64S.f k [] c) c := Ev.step (f := fun _ => some c) (g := fun k => laws_heldInt64S.l0 k [] c 0) (fun k => by rw [laws_heldInt64S.l0, if_neg (by simp)]) (Ev.now _)
theorem heldS_nil (c : Int) : Ev (fun k => laws_heldStringS.f k [] c) c := Ev.step (f := fun _ => some c) (g := fun k => laws_heldStringS.l0 k [] c 0) (fun k => by rw [laws_heldStringS.l0, if_neg (by simp)]) (Ev.now _)
theorem markZ_loop (P : Nat) : ∀ (rest pre : List S132) (c : Int), 0 ≤ c → (∀ x ∈ rest, x.f1.length ≤ P) → pre.length + rest.length ≤ 9223372036854775806 → c + (rest.length : Int) * (3 + P) ≤ 9223372036854775800 →
    ∃ m rest', rest'.length = rest.length ∧ c ≤ m ∧ m ≤ c + (rest.length : Int) * (3 + P) ∧ Ev (fun k => laws_markZoneS.l0 k (pre ++ rest) c (pre.length : Int)) (m, pre ++ rest') ∧ Ev (fun k => laws_heldZoneS.l0 k (pre ++ rest') c (pre.length : Int)) m
  | [], pre, c, h0, hx, hl, hb => by
    refine ⟨c, [], rfl, by omega, by simp, ?_, ?_⟩
    · refine Ev.step (f := fun _ => some (c, pre ++ [])) (fun k => ?_) (Ev.now _)
      rw [laws_markZoneS.l0, if_neg (by simp)]
    · refine Ev.step (f := fun _ => some c) (fun k => ?_) (Ev.now _)
      rw [laws_heldZoneS.l0, if_neg (by simp)]
  | x :: xs, pre, c, h0, hx, hl, hb => by
    have hp : x.f1.length ≤ P := hx x List.mem_cons_self
    have hmul : ((x :: xs).length : Int) * (3 + (P : Int)) = (xs.length : Int) * (3 + (P : Int)) + (3 + (P : Int)) := by
      rw [List.length_cons, Int.natCast_add, Int.add_mul]; simp
    have hnn : 0 ≤ (xs.length : Int) * (3 + (P : Int)) := Int.mul_nonneg (by omega) (by omega)
    rw [hmul] at hb
    rw [List.length_cons] at hl
    have hlen : (pre ++ [markZx c x.f1.length]).length = pre.length + 1 := by simp
    obtain ⟨m, rest', e1, e2, e3, e4, e5⟩ := markZ_loop P xs (pre ++ [markZx c x.f1.length]) (c + 1 + x.f1.length + 2) (by omega) (fun y hy => hx y (List.mem_cons_of_mem _ hy)) (by rw [hlen]; omega) (by omega)
    rw [List.append_assoc, hlen] at e4 e5
    rw [List.append_assoc] at e4
    have w1 : wrap64 (c + 1) = c + 1 := wrap64_id (by omega) (by omega)
    have wi : wrap64 ((pre.length : Int) + 1) = ((pre.length + 1 : Nat) : Int) := by rw [wrap64_id (by omega) (by omega)]; rfl
    have w2 : wrap64 (c + 1 + (x.f1.length : Int) + 1) = c + 1 + (x.f1.length : Int) + 1 := wrap64_id (by omega) (by omega)
    have w3 : wrap64 (c + 1 + (x.f1.length : Int) + 1 + 1) = c + 1 + (x.f1.length : Int) + 2 := by rw [wrap64_id (by omega) (by omega)]; omega
    refine ⟨m, markZx c x.f1.length :: rest', by simp [e1], by omega, by rw [hmul]; omega, ?_, ?_⟩
    · refine Ev.step (f := fun k => (laws_markInt64S.f k x.f1 (c + 1)).bind fun bt => laws_markZoneS.l0 k (pre ++ (⟨c, bt.2, bt.1, wrap64 (bt.1 + 1), [], []⟩ : S132) :: xs) (wrap64 (wrap64 (bt.1 + 1) + 1)) ((pre.length + 1 : Nat) : Int)) (fun k => ?_) (Ev.bind (markInt64S_ev x.f1 (c + 1) (by omega) (by omega)) (by simp only [w2, w3]; exact e4))
      rw [laws_markZoneS.l0, if_pos (lenz_lt _ _ _), if_pos (Int.natCast_nonneg _), rdz_at, w1, wi, Int.toNat_natCast]
      congr 1
      funext bt
      rw [List.set_append_right _ _ (Nat.le_refl _), Nat.sub_self, List.set_cons_zero]
    · have hs := heldInt64S_ev x.f1.length (c + 1) (by omega) (by omega)
      refine Ev.step (f := fun k => (laws_heldInt64S.f k (marked (c + 1) x.f1.length) (c + 1)).bind fun t => if t < 0 then some (-1) else if c + 1 + (x.f1.length : Int) = t then (if c + 1 + (x.f1.length : Int) + 1 = wrap64 (t + 1) then ((laws_heldInt64S.f k [] (wrap64 (wrap64 (t + 1) + 1))).bind fun t2 => if t2 < 0 then some (-1) else ((laws_heldStringS.f k [] t2).bind fun t3 => if t3 < 0 then some (-1) else laws_heldZoneS.l0 k (pre ++ markZx c x.f1.length :: rest') t3 ((pre.length + 1 : Nat) : Int))) else some (-1)) else some (-1)) (fun k => ?_)
        (Ev.bind hs (Ev.if_neg (by omega) (Ev.if_pos rfl (Ev.if_pos (by rw [w2]) (by rw [w2, w3]; exact Ev.bind (heldI_nil _) (Ev.if_neg (by omega) (Ev.bind (heldS_nil _) (Ev.if_neg (by omega) e5))))))))
      rw [laws_heldZoneS.l0, if_pos (lenz_lt _ _ _), if_pos (Int.natCast_nonneg _), rdz_at, w1, wi, if_pos (by rfl)]
      rfl
theorem markZ_ev (P : Nat) (l : List S132) (c : Int) (h0 : 0 ≤ c) (hx : ∀ x ∈ l, x.f1.length ≤ P) (hl : l.length ≤ 9223372036854775806) (hb : c + (l.length : Int) * (3 + P) ≤ 9223372036854775800) :
    ∃ m l', l'.length = l.length ∧ c ≤ m ∧ m ≤ c + (l.length : Int) * (3 + P) ∧ Ev (fun k => laws_markZoneS.f k l c) (m, l') ∧ Ev (fun k => laws_heldZoneS.f k l' c) m := by
  obtain ⟨m, l', e1, e2, e3, e4, e5⟩ := markZ_loop P l [] c h0 hx (by simpa using hl) hb
  exact ⟨m, l', e1, e2, e3, e4, e5⟩
theorem heldDev_ev (d0 d1 d2 : Int) (L : List S120) (d4 d5 : Int) (d6 : Bool) (d7 : Int) (Z : List S132) (c m1 m : Int) (h0 : 0 ≤ m1) (h1 : 0 ≤ m) (hb : Ev (fun k => laws_heldBlockS.f k L c) m1) (hz : Ev (fun k => laws_heldZoneS.f k Z m1) m) : Ev (fun k => laws_heldDevice.f k d0 d1 d2 L d4 d5 d6 d7 Z c) m := by
  unfold laws_heldDevice.f
  refine Ev.bind (a := m1) ?_ (Ev.if_neg (by omega) (Ev.bind hz (Ev.if_neg (by omega) (Ev.now _))))
  unfold laws_heldFlash.f
  exact Ev.bind hb (Ev.if_neg (by omega) (Ev.now _))
end Go.Proofs.Ytaecdlhomihejaa.Q
