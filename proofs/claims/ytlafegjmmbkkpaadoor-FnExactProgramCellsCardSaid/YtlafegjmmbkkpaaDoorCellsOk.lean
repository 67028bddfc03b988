/- The two tests of cells, as one truth value; their size, copy and equality. Conditions: those that stand before each theorem. -/
import Derived.Test.YtlafegjmmbkkpaaDoorQ1
import Derived.Test.YtlafegjmmbkkpaaDoorQ2
import Derived.Test.YtlafegjmmbkkpaaDoorQ1
import Derived.Test.YtlafegjmmbkkpaaDoorQ2
import Derived.Test.YtlafegjmmbkkpaaDoorQ2
import Derived.Test.YtlafegjmmbkkpaaDoorInS
import Derived.Test.YtlafegjmmbkkpaaDoorXAllW
import Derived.Test.YtlafegjmmbkkpaaDoorInt64C
import Derived.Test.YtlafegjmmbkkpaaDoorEqInt64S
namespace Go.Proofs.YtlafegjmmbkkpaaDoor.Q
open Go.RowKit Go.Proofs.YtlafegjmmbkkpaaDoorW.PrintWords
set_option linter.unusedVariables false
def okCells (l : List Int) : Bool := decide (l.length ≤ 64) && allIn l 0 255
theorem allIn_drop (l : List Int) (lo hi : Int) (i : Nat) (h : i < l.length) : allIn (l.drop i) lo hi = (decide (lo ≤ l[i] ∧ l[i] ≤ hi) && allIn (l.drop (i + 1)) lo hi) := by
  rw [List.drop_eq_getElem_cons h]
  rfl
theorem allIn_mem {l : List Int} {lo hi : Int} (h : allIn l lo hi = true) : ∀ x ∈ l, lo ≤ x ∧ x ≤ hi := by
  intro x hx
  have := List.all_eq_true.1 h x hx
  simpa using this
theorem validCells_loop (l : List Int) (hl : l.length ≤ 1000000) (d : Nat) : ∀ i : Nat, i ≤ l.length → l.length - i = d → Ev (fun k => spec_ValidCells.l0 k i l) (allIn (l.drop i) 0 255) := by
  induction d with
  | zero =>
    intro i h1 h2
    rw [List.drop_of_length_le (by omega)]
    refine Ev.step (f := fun _ => some true) (fun k => ?_) (Ev.now _)
    rw [spec_ValidCells.l0, if_neg (by omega)]
  | succ d ih =>
    intro i h1 h2
    rw [allIn_drop l 0 255 i (by omega)]
    by_cases h : 0 ≤ l[i] ∧ l[i] ≤ 255
    · rw [decide_eq_true h, Bool.true_and]
      refine Ev.step (fun k => ?_) (ih (i + 1) (by omega) (by omega))
      rw [spec_ValidCells.l0, if_pos (by omega), if_pos (by omega), rd_get l i (by omega), l00In_eq, decide_eq_true h, wrap64_id (by omega) (by omega)]
      rfl
    · rw [decide_eq_false h, Bool.false_and]
      refine Ev.step (f := fun _ => some false) (fun k => ?_) (Ev.now _)
      rw [spec_ValidCells.l0, if_pos (by omega), if_pos (by omega), rd_get l i (by omega), l00In_eq, decide_eq_false h]
      rfl
theorem validCells_ev (l : List Int) : Ev (fun k => spec_ValidCells.f k l) (okCells l) := by
  by_cases h : l.length ≤ 64
  · have h2 := validCells_loop l (by omega) l.length 0 (by omega) (by omega)
    obtain ⟨K, h2⟩ := h2
    refine ⟨K, fun k hk => ?_⟩
    have h3 := h2 k hk
    dsimp only at h3 ⊢
    unfold spec_ValidCells.f okCells
    rw [if_neg (by omega), decide_eq_true h, Bool.true_and]
    simpa using h3
  · refine ⟨0, fun k _ => ?_⟩
    show spec_ValidCells.f k l = _
    unfold spec_ValidCells.f okCells
    rw [if_pos (by omega), decide_eq_false h]
    rfl
theorem implCells_eq (l : List Int) : impl_ValidCells.f l = some (okCells l) := by
  unfold impl_ValidCells.f impl_allWithin.f okCells
  by_cases h : l.length ≤ 64
  · rw [if_pos (by omega), decide_eq_true h]
    rfl
  · rw [if_neg (by omega), decide_eq_false h]
    rfl
theorem szCells_some (l : List Int) (n : Int) (hl : l.length ≤ 9223372036854775807) (h0 : -1 ≤ n) (h1 : n ≤ 1048576) :
    ∃ r, laws_szCells.f l n = some r ∧ -1 ≤ r ∧ (0 ≤ r → (l.length : Int) ≤ n) := by
  obtain ⟨r, e, a, b, c⟩ := szInt64S_some l n hl h0 h1
  unfold laws_szCells.f
  rw [e]
  simp only [Option.bind_some]
  by_cases h : r < 0
  · rw [if_pos h]; exact ⟨-1, rfl, by omega, by omega⟩
  · rw [if_neg h]; exact ⟨r, rfl, a, fun _ => by have := c (by omega); omega⟩
theorem toCells_ev (l : List Int) (hl : l.length ≤ 35184372088832) : Ev (fun k => laws_toCells.f k l) l := by
  obtain ⟨K, h⟩ := toInt64S_ev l hl
  refine ⟨K, fun k hk => ?_⟩
  have h1 := h k hk
  dsimp only at h1 ⊢
  unfold laws_toCells.f
  rw [h1]
  rfl
theorem eqCells_ev (l m : List Int) (hl : l.length ≤ 9223372036854775806) : Ev (fun k => laws_eqCells.f k l m) (decide (l = m)) := by
  obtain ⟨K, h⟩ := eqInt64S_ev l m hl
  refine ⟨K, fun k hk => ?_⟩
  have h1 := h k hk
  dsimp only at h1 ⊢
  unfold laws_eqCells.f
  rw [h1]
  cases decide (l = m) <;> rfl
theorem eqCells_self (l : List Int) (hl : l.length ≤ 9223372036854775806) : Ev (fun k => laws_eqCells.f k l l) true := by
  have h := eqCells_ev l l hl
  rwa [decide_eq_true rfl] at h
end Go.Proofs.YtlafegjmmbkkpaaDoor.Q
