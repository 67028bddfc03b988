/- A flash translation layer equals itself, as the law compares it; truth values marked and held. Conditions: the lists are not longer than memory. -/
import Derived.Test.YtaecdlhomihejaaQ2
import Derived.Test.YtaecdlhomihejaaQ3
import Derived.Test.YtaecdlhomihejaaQ8
import Derived.Test.YtaecdlhomihejaaEqInt64S
import Derived.Test.YtaecdlhomihejaaEqBoolS
import Derived.Test.YtaecdlhomihejaaInt64S
import Derived.Test.YtaecdlhomihejaaMarkBP
namespace Go.Proofs.Ytaecdlhomihejaa.Q
open Go.RowKit Go.Proofs.YtaecdlhomihejaaW.PrintWords
set_option linter.unusedVariables false
theorem eqSf_loop (l : List ByteArray) (hl : l.length ≤ 9223372036854775806) (d : Nat) : ∀ i : Nat, i ≤ l.length → l.length - i = d → Ev (fun k => laws_eqStringS.l0 k l l i) true := by
  induction d with
  | zero =>
    intro i h1 h2
    refine Ev.step (f := fun _ => some true) (fun k => ?_) (Ev.now _)
    rw [laws_eqStringS.l0, if_neg (by omega)]
  | succ d ih =>
    intro i h1 h2
    refine Ev.step (fun k => ?_) (ih (i + 1) (by omega) (by omega))
    rw [laws_eqStringS.l0, if_pos (by omega), if_pos (by omega), if_pos (by omega), if_pos rfl, wrap64_id (by omega) (by omega)]
    rfl
theorem eqSf_self (l : List ByteArray) (hl : l.length ≤ 9223372036854775806) : Ev (fun k => laws_eqStringS.f k l l) true := by
  obtain ⟨K, h⟩ := eqSf_loop l hl l.length 0 (by omega) (by omega)
  refine ⟨K, fun k hk => ?_⟩
  have h1 := h k hk
  dsimp only at h1 ⊢
  unfold laws_eqStringS.f
  rw [if_pos rfl]
  exact h1
theorem rdbf_get (l : List S120) (i : Nat) (h : i < l.length) : rd_T120 l (i : Int) = l[i] := by simp [rd_T120, h]
theorem eqBf_self (x : S120) (hx : x.f3.length ≤ 9223372036854775806) : Ev (fun k => laws_eqBlock.f k x.f0 x.f1 x.f2 x.f3 x.f0 x.f1 x.f2 x.f3) true :=
  Ev.if_pos rfl (Ev.if_pos rfl (Ev.if_neg (by simp) (Ev.bind (eqSf_self x.f3 hx) (Ev.if_pos rfl (Ev.now _)))))
theorem eqBSf_loop (l : List S120) (hs : ∀ x ∈ l, x.f3.length ≤ 9223372036854775806) (hl : l.length ≤ 9223372036854775806) (d : Nat) : ∀ i : Nat, i ≤ l.length → l.length - i = d → Ev (fun k => laws_eqBlockS.l0 k l l i) true := by
  induction d with
  | zero =>
    intro i h1 h2
    refine Ev.step (f := fun _ => some true) (fun k => ?_) (Ev.now _)
    rw [laws_eqBlockS.l0, if_neg (by omega)]
  | succ d ih =>
    intro i h1 h2
    have hstep : ∀ k, laws_eqBlockS.l0 (k + 1) l l i = (laws_eqBlock.f k (l[i].f0) (l[i].f1) (l[i].f2) (l[i].f3) (l[i].f0) (l[i].f1) (l[i].f2) (l[i].f3)).bind fun t => if t = true then laws_eqBlockS.l0 k l l ((i + 1 : Nat) : Int) else some false := by
      intro k
      rw [laws_eqBlockS.l0, if_pos (by omega), if_pos (by omega), if_pos (by omega), rdbf_get l i (by omega), wrap64_id (by omega) (by omega)]
      rfl
    exact Ev.step hstep (Ev.bind (eqBf_self l[i] (hs _ (List.getElem_mem _))) (Ev.if_pos rfl (ih (i + 1) (by omega) (by omega))))
theorem eqBSf_self (l : List S120) (hs : ∀ x ∈ l, x.f3.length ≤ 9223372036854775806) (hl : l.length ≤ 9223372036854775806) : Ev (fun k => laws_eqBlockS.f k l l) true := by
  obtain ⟨K, h⟩ := eqBSf_loop l hs hl l.length 0 (by omega) (by omega)
  refine ⟨K, fun k hk => ?_⟩
  have h1 := h k hk
  dsimp only at h1 ⊢
  unfold laws_eqBlockS.f
  rw [if_pos rfl]
  exact h1
theorem eqFlf_self (a b c : Int) (l : List S120) (u v : Int) (o : Bool) (z : Int) (hs : ∀ x ∈ l, x.f3.length ≤ 9223372036854775806) (hl : l.length ≤ 9223372036854775806) :
    Ev (fun k => laws_eqFlash.f k a b c l u v o z a b c l u v o z) true := by
  refine Ev.bind1 (a := true) ?_ (Ev.if_pos rfl (Ev.bind (eqBSf_self l hs hl) (Ev.if_pos rfl (Ev.if_pos rfl (Ev.if_pos rfl (Ev.if_neg (by simp) (Ev.if_pos rfl (Ev.now _))))))))
  unfold laws_eqGeometry.f
  rw [if_pos rfl, if_pos rfl, if_pos rfl]
theorem eqT_self (a b c : Int) (l : List S120) (u v : Int) (o : Bool) (z p q : Int) (m : List Int) (t : List Bool) (h : List Int) (x y : Int) (on la : List Int) (bo po : Int) (hs : ∀ x ∈ l, x.f3.length ≤ 9223372036854775806) (hl : l.length ≤ 9223372036854775806) (hm : m.length ≤ 9223372036854775806) (ht : t.length ≤ 9223372036854775806) (hh : h.length ≤ 9223372036854775806) (ho : on.length ≤ 9223372036854775806) (hla : la.length ≤ 9223372036854775806) :
    Ev (fun k => laws_eqFTL.f k a b c l u v o z p q m t h x y on la bo po a b c l u v o z p q m t h x y on la bo po) true := by
  have s1 := eqInt64S_ev m m hm
  have s2 := eqBoolS_ev t t ht
  have s3 := eqInt64S_ev h h hh
  have s4 := eqInt64S_ev on on ho
  have s5 := eqInt64S_ev la la hla
  rw [decide_eq_true rfl] at s1 s2 s3 s4 s5
  have mp : Ev (fun k => laws_eqPageMap.f k p q m t p q m t) true := Ev.if_pos rfl (Ev.if_pos rfl (Ev.bind s1 (Ev.if_pos rfl (Ev.bind s2 (Ev.if_pos rfl (Ev.now _))))))
  have he : Ev (fun k => laws_eqHeat.f k h x h x) true := Ev.bind s3 (Ev.if_pos rfl (Ev.if_pos rfl (Ev.now _)))
  unfold laws_eqFTL.f
  exact Ev.bind (eqFlf_self a b c l u v o z hs hl) (Ev.if_pos rfl (Ev.bind mp (Ev.if_pos rfl (Ev.bind he (Ev.if_pos rfl (Ev.if_pos rfl (Ev.bind s4 (Ev.if_pos rfl (Ev.bind s5 (Ev.if_pos rfl (Ev.if_pos rfl (Ev.if_pos rfl (Ev.now _)))))))))))))
def markedBo (c : Int) (n : Nat) : List Bool := (List.range n).map (fun i : Nat => Int.tmod (c + (i : Int)) 3 == 0)
theorem markedBo_length (c : Int) (n : Nat) : (markedBo c n).length = n := by simp [markedBo]
theorem markBoolS_loop (l : List Bool) (c0 : Int) (h0 : 0 ≤ c0) (hb : c0 + l.length ≤ 9223372036854775806) (d : Nat) : ∀ i : Nat, i ≤ l.length → l.length - i = d →
    Ev (fun k => laws_markBoolS.l0 k (markedBo c0 i ++ l.drop i) (c0 + i) i) (c0 + l.length, markedBo c0 l.length) := by
  induction d with
  | zero =>
    intro i h1 h2
    obtain rfl : i = l.length := by omega
    refine Ev.step (f := fun _ => some (c0 + (l.length : Int), markedBo c0 l.length)) (fun k => ?_) (Ev.now _)
    rw [laws_markBoolS.l0, if_neg (by simp [markedBo_length])]
    simp
  | succ d ih =>
    intro i h1 h2
    refine Ev.step (fun k => ?_) (ih (i + 1) (by omega) (by omega))
    have hl : (markedBo c0 i ++ l.drop i).length = l.length := by simp [markedBo_length]; omega
    rw [laws_markBoolS.l0, hl, if_pos (by omega), if_pos (by omega), wrap64_id (by omega) (by omega), wrap64_id (by omega) (by omega)]
    have e : (markedBo c0 i ++ l.drop i).set (i : Int).toNat (Int.tmod (c0 + i) 3 == 0) = markedBo c0 (i + 1) ++ l.drop (i + 1) := by
      rw [Int.toNat_natCast, List.set_append_right _ _ (by simp [markedBo_length])]
      rw [List.drop_eq_getElem_cons (by omega), markedBo_length, Nat.sub_self, List.set_cons_zero]
      simp [markedBo, List.range_succ]
    rw [e]
    have e2 : c0 + (i : Int) + 1 = c0 + ((i + 1 : Nat) : Int) := by omega
    rw [e2]
    rfl
theorem markBoolS_ev (l : List Bool) (c : Int) (h0 : 0 ≤ c) (hb : c + l.length ≤ 9223372036854775806) : Ev (fun k => laws_markBoolS.f k l c) (c + l.length, markedBo c l.length) := by
  have h := markBoolS_loop l c h0 hb l.length 0 (by omega) (by omega)
  simpa [markedBo, laws_markBoolS.f] using h
theorem heldBoolS_loop (n : Nat) (c0 : Int) (h0 : 0 ≤ c0) (hb : c0 + n ≤ 9223372036854775806) (d : Nat) : ∀ i : Nat, i ≤ n → n - i = d →
    Ev (fun k => laws_heldBoolS.l0 k (markedBo c0 n) (c0 + i) i) (c0 + n) := by
  induction d with
  | zero =>
    intro i h1 h2
    obtain rfl : i = n := by omega
    refine Ev.step (f := fun _ => some (c0 + (i : Int))) (fun k => ?_) (Ev.now _)
    rw [laws_heldBoolS.l0, if_neg (by simp [markedBo_length])]
  | succ d ih =>
    intro i h1 h2
    refine Ev.step (fun k => ?_) (ih (i + 1) (by omega) (by omega))
    rw [laws_heldBoolS.l0, markedBo_length, if_pos (by omega), if_pos (by omega), rdOf_get _ _ _ (by rw [markedBo_length]; omega), if_neg (by simp [markedBo]), wrap64_id (by omega) (by omega), wrap64_id (by omega) (by omega)]
    have e2 : c0 + (i : Int) + 1 = c0 + ((i + 1 : Nat) : Int) := by omega
    rw [e2]
    rfl
theorem heldBoolS_ev (n : Nat) (c : Int) (h0 : 0 ≤ c) (hb : c + n ≤ 9223372036854775806) : Ev (fun k => laws_heldBoolS.f k (markedBo c n) c) (c + n) := by
  have h := heldBoolS_loop n c h0 hb n 0 (by omega) (by omega)
  simpa [laws_heldBoolS.f] using h
theorem markT_ev (a b c : Int) (l : List S120) (u v : Int) (o : Bool) (z p q : Int) (m : List Int) (t : List Bool) (h : List Int) (x y : Int) (on la : List Int) (bo po : Int) (hl : l.length ≤ 100) (hs : ∀ x ∈ l, x.f3.length ≤ 16) (hm : m.length ≤ 100) (ht : t.length ≤ 100) (hh : h.length ≤ 100) (ho : on.length ≤ 100) (hla : la.length ≤ 100) :
    ∃ m1 m2 m3 m4 r l' m' t' h' on' la', l'.length = l.length ∧ m'.length = m.length ∧ t'.length = t.length ∧ h'.length = h.length ∧ on'.length = on.length ∧ la'.length = la.length ∧ 0 ≤ r ∧ Ev (fun k => laws_markBlockS.f k l 1) (m1, l') ∧ Ev (fun k => laws_markPageMap.f k p q m t m1) (m2, m', t') ∧ Ev (fun k => laws_markHeat.f k h x m2) (m3, h') ∧ Ev (fun k => laws_markInt64S.f k on m3) (m4, on') ∧ Ev (fun k => laws_markInt64S.f k la m4) (r, la') ∧
      Ev (fun k => laws_heldFTL.f k a b c l' u v o z p q m' t' h' x y on' la' bo po 1) r := by
  have hb1 : (l.length : Int) * (3 + (16 : Nat)) ≤ 1900 := by
    have : (l.length : Int) ≤ 100 := by omega
    omega
  obtain ⟨m1, l', e1, e2, e3, e4, e5⟩ := markB_ev 16 l 1 (by omega) hs (by omega) (by omega)
  have i1 := markInt64S_ev m m1 (by omega) (by omega)
  have i2 := markBoolS_ev t (m1 + m.length) (by omega) (by omega)
  have i3 := markInt64S_ev h (m1 + m.length + t.length) (by omega) (by omega)
  have i4 := markInt64S_ev on (m1 + m.length + t.length + h.length) (by omega) (by omega)
  have i5 := markInt64S_ev la (m1 + m.length + t.length + h.length + on.length) (by omega) (by omega)
  have j1 := heldInt64S_ev m.length m1 (by omega) (by omega)
  have j2 := heldBoolS_ev t.length (m1 + m.length) (by omega) (by omega)
  have j3 := heldInt64S_ev h.length (m1 + m.length + t.length) (by omega) (by omega)
  have j4 := heldInt64S_ev on.length (m1 + m.length + t.length + h.length) (by omega) (by omega)
  have j5 := heldInt64S_ev la.length (m1 + m.length + t.length + h.length + on.length) (by omega) (by omega)
  refine ⟨m1, _, _, _, _, l', _, _, _, _, _, e1, marked_length _ _, markedBo_length _ _, marked_length _ _, marked_length _ _, marked_length _ _, ?_, e4, Ev.bind i1 (Ev.bind i2 (Ev.now _)), Ev.bind i3 (Ev.now _), i4, i5, ?_⟩
  · omega
  · unfold laws_heldFTL.f
    refine Ev.bind (a := m1) (Ev.bind e5 (Ev.if_neg (by omega) (Ev.now _))) (Ev.if_neg (by omega) ?_)
    refine Ev.bind (a := m1 + m.length + t.length) (Ev.bind j1 (Ev.if_neg (by omega) (Ev.bind j2 (Ev.if_neg (by omega) (Ev.now _))))) (Ev.if_neg (by omega) ?_)
    refine Ev.bind (a := m1 + m.length + t.length + h.length) (Ev.bind j3 (Ev.if_neg (by omega) (Ev.now _))) (Ev.if_neg (by omega) ?_)
    refine Ev.bind j4 (Ev.if_neg (by omega) ?_)
    exact Ev.bind j5 (Ev.if_neg (by omega) (Ev.now _))
end Go.Proofs.Ytaecdlhomihejaa.Q
