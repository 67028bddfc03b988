/- The size of a list of strings against a bound, its copy, its equality with itself. Conditions: those that stand before each theorem. -/
import Derived.Test.YtdjbphffibcbeaaQ1
import Derived.Test.YtdjbphffibcbeaaQ2
import Derived.Test.YtdjbphffibcbeaaNum
namespace Go.Proofs.Ytdjbphffibcbeaa.Q
open Go.RowKit Go.Proofs.YtdjbphffibcbeaaW.PrintWords
set_option linter.unusedVariables false
theorem rdS_get (l : List ByteArray) (i : Nat) (h : i < l.length) : rdOf ByteArray.empty l (i : Int) = l[i] := by simp [rdOf, h]
theorem szStringS_loop (l : List ByteArray) (hs : ∀ x ∈ l, x.size ≤ 140737488351232) (hl : l.length ≤ 140737488351232) (d : Nat) : ∀ (i : Nat) (n : Int), i ≤ l.length → l.length - i = d → -1 ≤ n → n ≤ 1048576 →
    ∃ r, Ev (fun k => laws_szStringS.l0 k l n i) r ∧ -1 ≤ r ∧ r ≤ n := by
  induction d with
  | zero =>
    intro i n h1 h2 h3 h4
    refine ⟨n, Ev.step (f := fun _ => some n) (fun k => ?_) (Ev.now _), h3, by omega⟩
    rw [laws_szStringS.l0, if_neg (by omega)]
  | succ d ih =>
    intro i n h1 h2 h3 h4
    have hz := hs l[i] (List.getElem_mem _)
    by_cases hr : n - (l[i].size : Int) < 0
    · refine ⟨-1, Ev.step (f := fun _ => some (-1)) (fun k => ?_) (Ev.now _), by omega, by omega⟩
      rw [laws_szStringS.l0, if_pos (by omega), if_pos (by omega), rdS_get l i (by omega), wrap64_id (x := n - _) (by omega) (by omega), if_pos hr]
    · obtain ⟨r, p, a, b⟩ := ih (i + 1) (n - (l[i].size : Int)) (by omega) (by omega) (by omega) (by omega)
      refine ⟨r, Ev.step (fun k => ?_) p, a, by omega⟩
      rw [laws_szStringS.l0, if_pos (by omega), if_pos (by omega), rdS_get l i (by omega), wrap64_id (x := n - _) (by omega) (by omega), if_neg hr, wrap64_id (by omega) (by omega)]
      rfl
theorem szStringS_ev (l : List ByteArray) (hs : ∀ x ∈ l, x.size ≤ 140737488351232) (hl : l.length ≤ 140737488351232) (n : Int) (h3 : -1 ≤ n) (h4 : n ≤ 1048576) :
    ∃ r, Ev (fun k => laws_szStringS.f k l n) r ∧ -1 ≤ r ∧ r ≤ n ∧ (0 ≤ r → (l.length : Int) ≤ n) := by
  by_cases h : n - (l.length : Int) < 0
  · refine ⟨-1, ⟨0, fun k _ => ?_⟩, by omega, h3, by omega⟩
    show laws_szStringS.f k l n = _
    unfold laws_szStringS.f
    rw [wrap64_id (by omega) (by omega), if_pos h]
  · obtain ⟨r, ⟨K, p⟩, a, b⟩ := szStringS_loop l hs hl l.length 0 (n - l.length) (by omega) (by omega) (by omega) (by omega)
    refine ⟨r, ⟨K, fun k hk => ?_⟩, a, by omega, by omega⟩
    have p1 := p k hk
    dsimp only at p1 ⊢
    unfold laws_szStringS.f
    rw [wrap64_id (by omega) (by omega), if_neg h]
    exact p1
theorem toStringS_loop (l : List ByteArray) (hl : l.length ≤ 17592186044416) (d : Nat) : ∀ i : Nat, i ≤ l.length → l.length - i = d →
    Ev (fun k => laws_toStringS.l0 k l (l.take i ++ List.replicate (l.length - i) (⟨#[]⟩ : ByteArray)) i) l := by
  induction d with
  | zero =>
    intro i h1 h2
    obtain rfl : i = l.length := by omega
    refine Ev.step (f := fun _ => some l) (fun k => ?_) (Ev.now _)
    rw [laws_toStringS.l0, if_neg (by omega)]
    simp
  | succ d ih =>
    intro i h1 h2
    refine Ev.step (fun k => ?_) (ih (i + 1) (by omega) (by omega))
    have hn : (l.take i ++ List.replicate (l.length - i) (⟨#[]⟩ : ByteArray)).length = l.length := by simp; omega
    rw [laws_toStringS.l0, if_pos (by omega), if_pos (by omega), hn, if_pos (by omega), rdS_get l i (by omega), wrap64_id (by omega) (by omega), Int.toNat_natCast]
    have e : (l.take i ++ List.replicate (l.length - i) (⟨#[]⟩ : ByteArray)).set i l[i] = l.take (i + 1) ++ List.replicate (l.length - (i + 1)) (⟨#[]⟩ : ByteArray) := by
      have hi : (l.take i).length = i := by simp; omega
      rw [List.set_append_right _ _ (by omega), hi, Nat.sub_self, show l.length - i = (l.length - (i + 1)) + 1 from by omega, List.replicate_succ, List.set_cons_zero, List.take_succ_eq_append_getElem (by omega), List.append_assoc]
      rfl
    rw [e]
    rfl
theorem toStringS_ev (l : List ByteArray) (hl : l.length ≤ 17592186044416) : Ev (fun k => laws_toStringS.f k l) l := by
  have h := toStringS_loop l hl l.length 0 (by omega) (by omega)
  obtain ⟨K, h⟩ := h
  refine ⟨K, fun k hk => ?_⟩
  have h1 := h k hk
  dsimp only at h1 ⊢
  unfold laws_toStringS.f
  rw [if_pos (by omega), if_pos (by omega), Int.toNat_natCast]
  simpa using h1
theorem eqStringS_loop (l : List ByteArray) (hl : l.length ≤ 9223372036854775806) (d : Nat) : ∀ i : Nat, i ≤ l.length → l.length - i = d → Ev (fun k => laws_eqStringS.l0 k l l i) true := by
  induction d with
  | zero =>
    intro i h1 h2
    refine Ev.step (f := fun _ => some true) (fun k => ?_) (Ev.now _)
    rw [laws_eqStringS.l0, if_neg (by omega)]
  | succ d ih =>
    intro i h1 h2
    refine Ev.step (fun k => ?_) (ih (i + 1) (by omega) (by omega))
    rw [laws_eqStringS.l0, if_pos (by omega), if_pos (by omega), if_pos (by omega), if_pos rfl, wrap64_id (by omega) (by omega)]
    rfl
theorem eqStringS_self (l : List ByteArray) (hl : l.length ≤ 9223372036854775806) : Ev (fun k => laws_eqStringS.f k l l) true := by
  obtain ⟨K, h⟩ := eqStringS_loop l hl l.length 0 (by omega) (by omega)
  refine ⟨K, fun k hk => ?_⟩
  have h1 := h k hk
  dsimp only at h1 ⊢
  unfold laws_eqStringS.f
  rw [if_pos rfl]
  exact h1
end Go.Proofs.Ytdjbphffibcbeaa.Q
