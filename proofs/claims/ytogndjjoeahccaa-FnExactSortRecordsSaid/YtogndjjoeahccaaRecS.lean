/- The size of a list of records against a bound, its copy, its equality with itself. Conditions: those that stand before each theorem. -/
import Derived.Test.YtogndjjoeahccaaQ2
import Derived.Test.YtogndjjoeahccaaQ4
import Derived.Test.YtogndjjoeahccaaQ5
import Derived.Test.YtogndjjoeahccaaSzRec
import Derived.Test.YtogndjjoeahccaaEqRecS
namespace Go.Proofs.Ytogndjjoeahccaa.Q
open Go.RowKit Go.Proofs.YtogndjjoeahccaaW.PrintWords
set_option linter.unusedVariables false
def small (x : S48) : Prop := x.f0.size ≤ 140737488351232 ∧ x.f3.size ≤ 140737488351232 ∧ x.f4.size ≤ 140737488351232
theorem szRecord_le (x : S48) (hx : small x) (n : Int) (h0 : -1 ≤ n) (h1 : n ≤ 1048576) :
    ∃ r, laws_szRecord.f x.f0 x.f1 x.f2 x.f3 x.f4 n = some r ∧ -1 ≤ r ∧ r ≤ n ∧ (0 ≤ r → r + x.f0.size + x.f3.size + x.f4.size ≤ n) := by
  obtain ⟨a, b, c⟩ := hx
  unfold laws_szRecord.f
  rw [wrap64_id (x := n - _) (by omega) (by omega)]
  by_cases c1 : n - (x.f0.size : Int) < 0
  · rw [if_pos c1]; exact ⟨-1, rfl, by omega, h0, by omega⟩
  rw [if_neg c1, wrap64_id (x := n - (x.f0.size : Int) - _) (by omega) (by omega)]
  by_cases c2 : n - (x.f0.size : Int) - (x.f3.size : Int) < 0
  · rw [if_pos c2]; exact ⟨-1, rfl, by omega, h0, by omega⟩
  rw [if_neg c2, wrap64_id (x := n - (x.f0.size : Int) - (x.f3.size : Int) - _) (by omega) (by omega)]
  by_cases c3 : n - (x.f0.size : Int) - (x.f3.size : Int) - (x.f4.size : Int) < 0
  · rw [if_pos c3]; exact ⟨-1, rfl, by omega, h0, by omega⟩
  rw [if_neg c3]
  exact ⟨_, rfl, by omega, by omega, by omega⟩
theorem rdL_get (l : List S48) (i : Nat) (h : i < l.length) : rd_T48 l (i : Int) = l[i] := by simp [rd_T48, h]
theorem szRecordS_loop (l : List S48) (hs : ∀ x ∈ l, small x) (hl : l.length ≤ 140737488351232) (d : Nat) : ∀ (i : Nat) (n : Int), i ≤ l.length → l.length - i = d → -1 ≤ n → n ≤ 1048576 →
    ∃ r, Ev (fun k => laws_szRecordS.l0 k l n i) r ∧ -1 ≤ r ∧ r ≤ n := by
  induction d with
  | zero =>
    intro i n h1 h2 h3 h4
    refine ⟨n, Ev.step (f := fun _ => some n) (fun k => ?_) (Ev.now _), h3, by omega⟩
    rw [laws_szRecordS.l0, if_neg (by omega)]
  | succ d ih =>
    intro i n h1 h2 h3 h4
    obtain ⟨r1, e1, a1, b1, _⟩ := szRecord_le l[i] (hs _ (List.getElem_mem _)) n h3 h4
    by_cases hr : r1 < 0
    · refine ⟨-1, Ev.step (f := fun _ => some (-1)) (fun k => ?_) (Ev.now _), by omega, by omega⟩
      rw [laws_szRecordS.l0, if_pos (by omega), if_pos (by omega), rdL_get l i (by omega), e1]
      simp only [Option.bind_some]
      rw [if_pos hr]
    · obtain ⟨r, p, a, b⟩ := ih (i + 1) r1 (by omega) (by omega) (by omega) (by omega)
      refine ⟨r, Ev.step (fun k => ?_) p, a, by omega⟩
      rw [laws_szRecordS.l0, if_pos (by omega), if_pos (by omega), rdL_get l i (by omega), e1]
      simp only [Option.bind_some]
      rw [if_neg hr, wrap64_id (by omega) (by omega)]
      rfl
theorem szRecordS_ev (l : List S48) (hs : ∀ x ∈ l, small x) (hl : l.length ≤ 140737488351232) (n : Int) (h3 : -1 ≤ n) (h4 : n ≤ 1048576) :
    ∃ r, Ev (fun k => laws_szRecordS.f k l n) r ∧ -1 ≤ r ∧ r ≤ n ∧ (0 ≤ r → (l.length : Int) ≤ n) := by
  by_cases h : n - (l.length : Int) < 0
  · refine ⟨-1, ⟨0, fun k _ => ?_⟩, by omega, h3, by omega⟩
    show laws_szRecordS.f k l n = _
    unfold laws_szRecordS.f
    rw [wrap64_id (by omega) (by omega), if_pos h]
  · obtain ⟨r, ⟨K, p⟩, a, b⟩ := szRecordS_loop l hs hl l.length 0 (n - l.length) (by omega) (by omega) (by omega) (by omega)
    refine ⟨r, ⟨K, fun k hk => ?_⟩, a, by omega, by omega⟩
    have p1 := p k hk
    dsimp only at p1 ⊢
    unfold laws_szRecordS.f
    rw [wrap64_id (by omega) (by omega), if_neg h]
    exact p1
def toR (x : S48) : S49 := ⟨x.f0, x.f1, x.f2, x.f3, x.f4⟩
theorem toRecordS_loop (l : List S48) (hl : l.length ≤ 4398046511104) (d : Nat) : ∀ i : Nat, i ≤ l.length → l.length - i = d →
    Ev (fun k => laws_toRecordS.l0 k l ((l.take i).map toR ++ List.replicate (l.length - i) z49) i) (l.map toR) := by
  induction d with
  | zero =>
    intro i h1 h2
    obtain rfl : i = l.length := by omega
    refine Ev.step (f := fun _ => some (l.map toR)) (fun k => ?_) (Ev.now _)
    rw [laws_toRecordS.l0, if_neg (by omega)]
    simp
  | succ d ih =>
    intro i h1 h2
    refine Ev.step (fun k => ?_) (ih (i + 1) (by omega) (by omega))
    have hi : ((l.take i).map toR).length = i := by simp; omega
    have hn : ((l.take i).map toR ++ List.replicate (l.length - i) z49).length = l.length := by simp; omega
    rw [laws_toRecordS.l0, if_pos (by omega), if_pos (by omega), rdL_get l i (by omega), toRecord_eq]
    simp only [Option.bind_some]
    rw [hn, if_pos (by omega), wrap64_id (by omega) (by omega), Int.toNat_natCast]
    have e : ((l.take i).map toR ++ List.replicate (l.length - i) z49).set i (toR l[i]) = (l.take (i + 1)).map toR ++ List.replicate (l.length - (i + 1)) z49 := by
      rw [List.set_append_right _ _ (by omega), hi, Nat.sub_self, show l.length - i = (l.length - (i + 1)) + 1 from by omega, List.replicate_succ, List.set_cons_zero, List.take_succ_eq_append_getElem (by omega), List.map_append, List.append_assoc]
      rfl
    unfold toR at e ⊢
    rw [e]
    rfl
theorem toRecordS_ev (l : List S48) (hl : l.length ≤ 4398046511104) : Ev (fun k => laws_toRecordS.f k l) (l.map toR) := by
  obtain ⟨K, h⟩ := toRecordS_loop l hl l.length 0 (by omega) (by omega)
  refine ⟨K, fun k hk => ?_⟩
  have h1 := h k hk
  dsimp only at h1 ⊢
  unfold laws_toRecordS.f
  rw [if_pos (by omega), if_pos (by omega), Int.toNat_natCast]
  simpa using h1
end Go.Proofs.Ytogndjjoeahccaa.Q
