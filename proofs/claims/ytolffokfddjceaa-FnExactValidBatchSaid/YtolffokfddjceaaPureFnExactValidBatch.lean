/- The law FnExactValidBatch, as a statement over numbers and lists. No condition. -/
import Derived.Test.YtolffokfddjceaaSayFnExactValidBatch
import Derived.Test.YtolffokfddjceaaRecOk
import Derived.Test.YtolffokfddjceaaRecS
namespace Go.Proofs.Ytolffokfddjceaa.Pure
open Go.RowKit Go.Proofs.Ytolffokfddjceaa.Q Go.Proofs.YtolffokfddjceaaW.PrintWords
def okR (x : S26) : Bool := okRec x.f0 x.f1 x.f2 x.f3 x.f4
/-- Each record is valid and bears its number. -/
def runs (first : Int) : Nat → List S26 → Bool
  | _, [] => true
  | i, x :: xs => okR x && (x.f1 == wrap64 (first + i) && runs first (i + 1) xs)
theorem spec_loop (first : Int) (l : List S26) (hl : (l.length : Int) < 9223372036854775807) (d : Nat) : ∀ i : Nat, i ≤ l.length → l.length - i = d → Ev (fun k => spec_l19Batch.l0 k first l i) (runs first i (l.drop i)) := by
  induction d with
  | zero =>
    intro i h1 h2
    rw [List.drop_of_length_le (by omega)]
    refine Ev.step (f := fun _ => some true) (fun k => ?_) (Ev.now _)
    rw [spec_l19Batch.l0, if_neg (by omega)]
  | succ d ih =>
    intro i h1 h2
    have hi : i < l.length := by omega
    rw [List.drop_eq_getElem_cons hi]
    have hr := rdI_get l i hi
    revert hr
    generalize l[i]'hi = x
    intro hr
    simp only [runs]
    refine Ev.step (f := fun k => (spec_l17Valid.f k x.f0 x.f1 x.f2 x.f3 x.f4).bind fun t => (if t = true then (if x.f1 = wrap64 (first + i) then (spec_l19Batch.l0 k first l ((i + 1 : Nat) : Int)) else (some false)) else (some false))) (fun k => ?_) (Ev.bind (l17Valid_ev _ _ _ _ _) ?_)
    · rw [spec_l19Batch.l0, if_pos (by omega), if_pos (by omega), hr, wrap64_id (x := (i : Int) + 1) (by omega) (by omega)]
      rfl
    · by_cases c1 : okR x = true
      · rw [c1, Bool.true_and]
        refine Ev.if_pos c1 ?_
        by_cases c2 : x.f1 = wrap64 (first + i)
        · refine Ev.if_pos c2 ?_
          rw [beq_iff_eq.2 c2, Bool.true_and]
          exact ih (i + 1) (by omega) (by omega)
        · refine Ev.if_neg c2 ?_
          rw [beq_eq_false_iff_ne.2 c2, Bool.false_and]
          exact Ev.now _
      · refine Ev.if_neg c1 ?_
        rw [Bool.not_eq_true] at c1
        rw [c1, Bool.false_and]
        exact Ev.now _
theorem impl_loop (first : Int) (l : List S26) (hl : (l.length : Int) < 9223372036854775807) (d : Nat) : ∀ i : Nat, i ≤ l.length → l.length - i = d →
    Ev (fun k => impl_ValidBatch.l0 k first l l (l.length : Int) i) (runs first i (l.drop i) && decide (1 ≤ (l.length : Int) ∧ (l.length : Int) ≤ 8)) := by
  induction d with
  | zero =>
    intro i h1 h2
    rw [List.drop_of_length_le (by omega)]
    simp only [runs, Bool.true_and]
    refine Ev.step (f := fun _ => some (decide (1 ≤ (l.length : Int) ∧ (l.length : Int) ≤ 8))) (fun k => ?_) (Ev.now _)
    rw [impl_ValidBatch.l0, if_neg (by omega), within_eq]
    rfl
  | succ d ih =>
    intro i h1 h2
    have hi : i < l.length := by omega
    rw [List.drop_eq_getElem_cons hi]
    have hr := rdI_get l i hi
    revert hr
    generalize l[i]'hi = x
    intro hr
    simp only [runs]
    refine Ev.step (f := fun k => (impl_ValidRecord.f k x.f0 x.f1 x.f2 x.f3 x.f4).bind fun t => (if t = true then (if x.f1 = wrap64 (first + i) then (impl_ValidBatch.l0 k first l l (l.length : Int) ((i + 1 : Nat) : Int)) else (some false)) else (some false))) (fun k => ?_) (Ev.bind (implRec_ev _ _ _ _ _) ?_)
    · rw [impl_ValidBatch.l0, if_pos (by omega), if_pos (by omega), if_pos (by omega), hr, wrap64_id (x := (i : Int) + 1) (by omega) (by omega)]
      rfl
    · by_cases c1 : okR x = true
      · rw [c1, Bool.true_and]
        refine Ev.if_pos c1 ?_
        by_cases c2 : x.f1 = wrap64 (first + i)
        · refine Ev.if_pos c2 ?_
          rw [beq_iff_eq.2 c2, Bool.true_and]
          exact ih (i + 1) (by omega) (by omega)
        · refine Ev.if_neg c2 ?_
          rw [beq_eq_false_iff_ne.2 c2, Bool.false_and]
          exact Ev.now _
      · refine Ev.if_neg c1 ?_
        rw [Bool.not_eq_true] at c1
        rw [c1, Bool.false_and]
        exact Ev.now _
theorem runs_out (first : Int) (h0 : -9223372036854775808 ≤ first) (h1 : first ≤ 9223372036854775807) (c3 : ¬ (1 ≤ first ∧ first ≤ 1000000)) (l : List S26) (hn : l ≠ []) : runs first 0 l = false := by
  cases l with
  | nil => exact absurd rfl hn
  | cons x xs =>
    simp only [runs]
    by_cases c4 : x.f1 = wrap64 (first + ((0 : Nat) : Int))
    · have c5 : x.f1 = first := by rw [c4, wrap64_id (by omega) (by omega)]; omega
      have c6 : okR x = false := by
        unfold okR okRec
        rw [c5, decide_eq_false c3]
        simp
      rw [c6]
      rfl
    · rw [beq_eq_false_iff_ne.2 c4]
      simp
theorem batch_same (first : Int) (h0 : -9223372036854775808 ≤ first) (h1 : first ≤ 9223372036854775807) (l : List S26) (hl : (l.length : Int) < 9223372036854775807) :
    ∃ v, Ev (fun k => spec_ValidBatch.f k first l) v ∧ Ev (fun k => impl_ValidBatch.f k first l) v := by
  refine ⟨_, ?_, impl_loop first l hl l.length 0 (by omega) (by omega)⟩
  unfold spec_ValidBatch.f spec_l19Batch.f
  rw [List.drop_zero]
  by_cases c1 : (l.length : Int) < 1
  · rw [decide_eq_false (by omega), Bool.and_false]
    refine ⟨1, fun k hk => ?_⟩
    obtain ⟨m, rfl⟩ : ∃ m, k = m + 1 := ⟨k - 1, by omega⟩
    dsimp only
    rw [if_pos c1, spec_l19Batch.j0]
    rfl
  by_cases c2 : (l.length : Int) > 8
  · rw [decide_eq_false (by omega), Bool.and_false]
    refine ⟨1, fun k hk => ?_⟩
    obtain ⟨m, rfl⟩ : ∃ m, k = m + 1 := ⟨k - 1, by omega⟩
    dsimp only
    rw [if_neg c1, if_pos c2, spec_l19Batch.j0]
    rfl
  rw [decide_eq_true (by omega), Bool.and_true]
  simp only [l00In_eq, Option.bind_some]
  by_cases c3 : 1 ≤ first ∧ first ≤ 1000000
  · obtain ⟨K, e⟩ := spec_loop first l hl l.length 0 (by omega) (by omega)
    refine ⟨K + 1, fun k hk => ?_⟩
    obtain ⟨m, rfl⟩ : ∃ m, k = m + 1 := ⟨k - 1, by omega⟩
    have e1 := e m (by omega)
    dsimp only at e1 ⊢
    rw [List.drop_zero] at e1
    rw [if_neg c1, if_neg c2, spec_l19Batch.j0, decide_eq_true c3]
    simp only [Bool.not_true, Bool.false_eq_true, if_false]
    have e2 : spec_l19Batch.l0 m first l 0 = some (runs first 0 l) := e1
    rw [e2]
    simp only [Option.bind_some]
  · have hf : runs first 0 l = false := runs_out first h0 h1 c3 l (by intro h; rw [h] at c1; exact c1 (by decide))
    rw [hf]
    refine ⟨1, fun k hk => ?_⟩
    obtain ⟨m, rfl⟩ : ∃ m, k = m + 1 := ⟨k - 1, by omega⟩
    dsimp only
    rw [if_neg c1, if_neg c2, spec_l19Batch.j0, decide_eq_false c3]
    rfl
theorem FnExactValidBatch : laws_FnExactValidBatch.Pure := by
  intro first l hw hg
  obtain ⟨h0, h1⟩ := wf_i64 hw
  obtain ⟨hl, hb, he⟩ : l.length ≤ maxLen ∧ l.length * 64 ≤ 140737488351232 ∧ ∀ y ∈ l, _ := hg
  have hs : ∀ x ∈ l, small x := by
    intro x hx
    obtain ⟨g0, _, _, g3, g4⟩ := he x hx
    exact ⟨g0, g3, g4⟩
  obtain ⟨r, e, a, b, c⟩ := szRecordS_ev l hs (by omega) 1048576 (by omega) (by omega)
  unfold laws_FnExactValidBatch.f
  refine Ev.rounds ?_
  refine Ev.bind e ?_
  by_cases h : r < 0
  · exact Ev.if_pos h (Ev.now _)
  refine Ev.if_neg h ?_
  have hn := c (by omega)
  by_cases hlong : l.length ≤ 10000000
  · obtain ⟨v, p1, p2⟩ := batch_same first h0 h1 (l.map toR) (by rw [List.length_map]; omega)
    refine Ev.bind (toRecordS_ev l (by omega)) ?_
    refine Ev.bind p1 ?_
    refine Ev.bind (toRecordS_ev l (by omega)) ?_
    refine Ev.bind p2 ?_
    refine Ev.if_neg (by simp) ?_
    refine Ev.bind (toRecordS_ev l (by omega)) ?_
    refine Ev.bind (eqRecordS_self _ (by simp; omega)) (Ev.if_pos rfl (Ev.now _))
  · omega
end Go.Proofs.Ytolffokfddjceaa.Pure
