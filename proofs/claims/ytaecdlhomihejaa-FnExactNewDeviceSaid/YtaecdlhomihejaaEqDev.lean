/- A device equals itself, as the law compares it. Conditions: the lists are not longer than memory. -/
import Derived.Test.YtaecdlhomihejaaQ5
import Derived.Test.YtaecdlhomihejaaEqInt64S
import Derived.Test.YtaecdlhomihejaaNum
namespace Go.Proofs.Ytaecdlhomihejaa.Q
open Go.RowKit Go.Proofs.YtaecdlhomihejaaW.PrintWords
set_option linter.unusedVariables false
theorem eqS_loop (l : List ByteArray) (hl : l.length ≤ 9223372036854775806) (d : Nat) : ∀ i : Nat, i ≤ l.length → l.length - i = d → Ev (fun k => laws_eqStringS.l0 k l l i) true := by
  induction d with
  | zero =>
    intro i h1 h2
    refine Ev.step (f := fun _ => some true) (fun k => ?_) (Ev.now _)
    rw [laws_eqStringS.l0, if_neg (by omega)]
  | succ d ih =>
    intro i h1 h2
    refine Ev.step (fun k => ?_) (ih (i + 1) (by omega) (by omega))
    rw [laws_eqStringS.l0, if_pos (by omega), if_pos (by omega), if_pos (by omega), if_pos rfl, wrap64_id (by omega) (by omega)]
    rfl
theorem eqS_self (l : List ByteArray) (hl : l.length ≤ 9223372036854775806) : Ev (fun k => laws_eqStringS.f k l l) true := by
  obtain ⟨K, h⟩ := eqS_loop l hl l.length 0 (by omega) (by omega)
  refine ⟨K, fun k hk => ?_⟩
  have h1 := h k hk
  dsimp only at h1 ⊢
  unfold laws_eqStringS.f
  rw [if_pos rfl]
  exact h1
theorem rdb_get (l : List S120) (i : Nat) (h : i < l.length) : rd_T120 l (i : Int) = l[i] := by simp [rd_T120, h]
theorem rdz_get (l : List S132) (i : Nat) (h : i < l.length) : rd_T132 l (i : Int) = l[i] := by simp [rd_T132, h]
theorem eqB_self (x : S120) (hx : x.f3.length ≤ 9223372036854775806) : Ev (fun k => laws_eqBlock.f k x.f0 x.f1 x.f2 x.f3 x.f0 x.f1 x.f2 x.f3) true :=
  Ev.if_pos rfl (Ev.if_pos rfl (Ev.if_neg (by simp) (Ev.bind (eqS_self x.f3 hx) (Ev.if_pos rfl (Ev.now _)))))
theorem eqBS_loop (l : List S120) (hs : ∀ x ∈ l, x.f3.length ≤ 9223372036854775806) (hl : l.length ≤ 9223372036854775806) (d : Nat) : ∀ i : Nat, i ≤ l.length → l.length - i = d → Ev (fun k => laws_eqBlockS.l0 k l l i) true := by
  induction d with
  | zero =>
    intro i h1 h2
    refine Ev.step (f := fun _ => some true) (fun k => ?_) (Ev.now _)
    rw [laws_eqBlockS.l0, if_neg (by omega)]
  | succ d ih =>
    intro i h1 h2
    have hstep : ∀ k, laws_eqBlockS.l0 (k + 1) l l i = (laws_eqBlock.f k (l[i].f0) (l[i].f1) (l[i].f2) (l[i].f3) (l[i].f0) (l[i].f1) (l[i].f2) (l[i].f3)).bind fun t => if t = true then laws_eqBlockS.l0 k l l ((i + 1 : Nat) : Int) else some false := by
      intro k
      rw [laws_eqBlockS.l0, if_pos (by omega), if_pos (by omega), if_pos (by omega), rdb_get l i (by omega), wrap64_id (by omega) (by omega)]
      rfl
    exact Ev.step hstep (Ev.bind (eqB_self l[i] (hs _ (List.getElem_mem _))) (Ev.if_pos rfl (ih (i + 1) (by omega) (by omega))))
theorem eqBS_self (l : List S120) (hs : ∀ x ∈ l, x.f3.length ≤ 9223372036854775806) (hl : l.length ≤ 9223372036854775806) : Ev (fun k => laws_eqBlockS.f k l l) true := by
  obtain ⟨K, h⟩ := eqBS_loop l hs hl l.length 0 (by omega) (by omega)
  refine ⟨K, fun k hk => ?_⟩
  have h1 := h k hk
  dsimp only at h1 ⊢
  unfold laws_eqBlockS.f
  rw [if_pos rfl]
  exact h1
theorem eqFl_self (a b c : Int) (l : List S120) (u v : Int) (o : Bool) (z : Int) (hs : ∀ x ∈ l, x.f3.length ≤ 9223372036854775806) (hl : l.length ≤ 9223372036854775806) :
    Ev (fun k => laws_eqFlash.f k a b c l u v o z a b c l u v o z) true := by
  refine Ev.bind1 (a := true) ?_ (Ev.if_pos rfl (Ev.bind (eqBS_self l hs hl) (Ev.if_pos rfl (Ev.if_pos rfl (Ev.if_pos rfl (Ev.if_neg (by simp) (Ev.if_pos rfl (Ev.now _))))))))
  unfold laws_eqGeometry.f
  rw [if_pos rfl, if_pos rfl, if_pos rfl]
theorem eqZ_self (x : S132) (h1 : x.f1.length ≤ 9223372036854775806) (h4 : x.f4.length ≤ 9223372036854775806) (h5 : x.f5.length ≤ 9223372036854775806) : Ev (fun k => laws_eqZone.f k x.f0 x.f1 x.f2 x.f3 x.f4 x.f5 x.f0 x.f1 x.f2 x.f3 x.f4 x.f5) true := by
  have s1 := eqInt64S_ev x.f1 x.f1 h1
  have s4 := eqInt64S_ev x.f4 x.f4 h4
  rw [decide_eq_true rfl] at s1 s4
  exact Ev.if_pos rfl (Ev.bind s1 (Ev.if_pos rfl (Ev.if_pos rfl (Ev.if_pos rfl (Ev.bind s4 (Ev.if_pos rfl (Ev.bind (eqS_self x.f5 h5) (Ev.if_pos rfl (Ev.now _)))))))))
theorem eqZS_loop (l : List S132) (hs : ∀ x ∈ l, x.f1.length ≤ 1000 ∧ x.f4.length ≤ 1000 ∧ x.f5.length ≤ 1000) (hl : l.length ≤ 9223372036854775806) (d : Nat) : ∀ i : Nat, i ≤ l.length → l.length - i = d → Ev (fun k => laws_eqZoneS.l0 k l l i) true := by
  induction d with
  | zero =>
    intro i h1 h2
    refine Ev.step (f := fun _ => some true) (fun k => ?_) (Ev.now _)
    rw [laws_eqZoneS.l0, if_neg (by omega)]
  | succ d ih =>
    intro i h1 h2
    obtain ⟨z1, z4, z5⟩ := hs l[i] (List.getElem_mem _)
    have hstep : ∀ k, laws_eqZoneS.l0 (k + 1) l l i = (laws_eqZone.f k (l[i].f0) (l[i].f1) (l[i].f2) (l[i].f3) (l[i].f4) (l[i].f5) (l[i].f0) (l[i].f1) (l[i].f2) (l[i].f3) (l[i].f4) (l[i].f5)).bind fun t => if t = true then laws_eqZoneS.l0 k l l ((i + 1 : Nat) : Int) else some false := by
      intro k
      rw [laws_eqZoneS.l0, if_pos (by omega), if_pos (by omega), if_pos (by omega), rdz_get l i (by omega), wrap64_id (by omega) (by omega)]
      rfl
    exact Ev.step hstep (Ev.bind (eqZ_self l[i] (by omega) (by omega) (by omega)) (Ev.if_pos rfl (ih (i + 1) (by omega) (by omega))))
theorem eqD_self (a b c : Int) (l : List S120) (u v : Int) (o : Bool) (z : Int) (y : List S132) (hs : ∀ x ∈ l, x.f3.length ≤ 1000) (hl : l.length ≤ 1000) (hz : ∀ x ∈ y, x.f1.length ≤ 1000 ∧ x.f4.length ≤ 1000 ∧ x.f5.length ≤ 1000) (hy : y.length ≤ 1000) :
    Ev (fun k => laws_eqDevice.f k a b c l u v o z y a b c l u v o z y) true := by
  unfold laws_eqDevice.f
  refine Ev.bind (eqFl_self a b c l u v o z (fun x hx => by have := hs x hx; omega) (by omega)) (Ev.if_pos rfl (Ev.bind (a := true) ?_ (Ev.if_pos rfl (Ev.now _))))
  obtain ⟨K, h⟩ := eqZS_loop y hz (by omega) y.length 0 (by omega) (by omega)
  refine ⟨K, fun k hk => ?_⟩
  have h1 := h k hk
  dsimp only at h1 ⊢
  unfold laws_eqZoneS.f
  rw [if_pos rfl]
  exact h1
end Go.Proofs.Ytaecdlhomihejaa.Q
