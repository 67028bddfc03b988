/- The specification's ValidDevice, as one truth value (the one that the program's walk gives). Conditions: those before each theorem. -/
import Derived.Test.YtdjbphffibcbeaaFlashS
import Derived.Test.YtdjbphffibcbeaaXValidDevice
import Derived.Test.YtdjbphffibcbeaaQ11
namespace Go.Proofs.Ytdjbphffibcbeaa.Q
open Go.RowKit Go.Proofs.YtdjbphffibcbeaaW.PrintWords
set_option linter.unusedVariables false
theorem Ev.step1 {α β : Type} {F f : Nat → Option α} {g : Nat → Option β} {a : β} {r : α} (h : Ev g a) (hF : ∀ k, g k = some a → F (k + 1) = f k) (e : Ev f r) : Ev F r := by
  obtain ⟨K, h⟩ := h
  obtain ⟨M, e⟩ := e
  refine ⟨K + M + 1, fun k hk => ?_⟩
  obtain ⟨k', rfl⟩ : ∃ k', k = k' + 1 := ⟨k - 1, by omega⟩
  rw [hF k' (h k' (by omega)), e k' (by omega)]
theorem Ev.step2 {α β γ : Type} {F f : Nat → Option α} {g : Nat → Option β} {a : β} {g2 : Nat → Option γ} {a2 : γ} {r : α} (h : Ev g a) (h2 : Ev g2 a2) (hF : ∀ k, g k = some a → g2 k = some a2 → F (k + 1) = f k) (e : Ev f r) : Ev F r := by
  obtain ⟨K, h⟩ := h
  obtain ⟨K2, h2⟩ := h2
  obtain ⟨M, e⟩ := e
  refine ⟨K + K2 + M + 1, fun k hk => ?_⟩
  obtain ⟨k', rfl⟩ : ∃ k', k = k' + 1 := ⟨k - 1, by omega⟩
  rw [hF k' (h k' (by omega)) (h2 k' (by omega)), e k' (by omega)]
theorem Ev.step3 {α β γ δ : Type} {F f : Nat → Option α} {g : Nat → Option β} {a : β} {g2 : Nat → Option γ} {a2 : γ} {g3 : Nat → Option δ} {a3 : δ} {r : α} (h : Ev g a) (h2 : Ev g2 a2) (h3 : Ev g3 a3) (hF : ∀ k, g k = some a → g2 k = some a2 → g3 k = some a3 → F (k + 1) = f k) (e : Ev f r) : Ev F r := by
  obtain ⟨K, h⟩ := h
  obtain ⟨K2, h2⟩ := h2
  obtain ⟨K3, h3⟩ := h3
  obtain ⟨M, e⟩ := e
  refine ⟨K + K2 + K3 + M + 1, fun k hk => ?_⟩
  obtain ⟨k', rfl⟩ : ∃ k', k = k' + 1 := ⟨k - 1, by omega⟩
  rw [hF k' (h k' (by omega)) (h2 k' (by omega)) (h3 k' (by omega)), e k' (by omega)]
theorem hasN_loop (l : List Int) (a : Int) (hl : l.length ≤ 9223372036854775806) (d : Nat) : ∀ i : Nat, i ≤ l.length → l.length - i = d → Ev (fun k => spec_l00Has.l0 k l a i) ((l.drop i).any fun q => q == a) := by
  induction d with
  | zero =>
    intro i h1 h2
    rw [List.drop_of_length_le (by omega)]
    refine Ev.step (f := fun _ => some false) (fun k => ?_) (Ev.now _)
    rw [spec_l00Has.l0, if_neg (by omega)]
  | succ d ih =>
    intro i h1 h2
    have hi : i < l.length := by omega
    have e1 : rd l (i : Int) = l[i] := by simp [rd, hi]
    have ei : wrap64 ((i : Int) + 1) = ((i + 1 : Nat) : Int) := by unfold wrap64; omega
    have ih1 := ih (i + 1) (by omega) (by omega)
    rw [List.drop_eq_getElem_cons hi, List.any_cons]
    by_cases c : l[i] = a
    · rw [show (l[i] == a) = true from by simp [c], Bool.true_or]
      refine Ev.step (f := fun _ => some true) (fun k => ?_) (Ev.now _)
      rw [spec_l00Has.l0, if_pos (by omega), if_pos (by omega), e1, if_pos c]
    · rw [show (l[i] == a) = false from by simp [c], Bool.false_or]
      refine Ev.step (fun k => ?_) ih1
      rw [spec_l00Has.l0, if_pos (by omega), if_pos (by omega), e1, if_neg c, ei]
theorem hasN_ev (l : List Int) (a : Int) (hl : l.length ≤ 9223372036854775806) : Ev (fun k => spec_l00Has.f k l a) (l.any fun q => q == a) := by
  have := hasN_loop l a hl l.length 0 (by omega) (by omega)
  rw [List.drop_zero] at this
  exact this
theorem place_sum {b : Int} (hb : 4 ≤ b ∧ b ≤ 12) (i : Nat) (hi : i < 3) : wrap64 (wrap64 ((i : Int) * b) + b) = wrap64 (((i + 1 : Nat) : Int) * b) := by
  have ew : ∀ m : Int, 0 ≤ m → m ≤ 1000 → wrap64 m = m := fun m q0 q1 => by unfold wrap64; omega
  have hi3 : i = 0 ∨ i = 1 ∨ i = 2 := by omega
  rcases hi3 with rfl | rfl | rfl
  · rw [ew (((0 : Nat) : Int) * b) (by simp) (by simp)]; congr 1; simp
  · rw [ew (((1 : Nat) : Int) * b) (by simp; omega) (by simp; omega)]; congr 1; simp; omega
  · rw [ew (((2 : Nat) : Int) * b) (by simp; omega) (by simp; omega)]; congr 1; simp; omega
theorem blocks_loop {d b p : Int} (x : S50) (hd : 2 ≤ d ∧ d ≤ 3) (hb : 4 ≤ b ∧ b ≤ 12) (hl : (x.f1.length : Int) = d) (dd : Nat) : ∀ i : Nat, i ≤ x.f1.length → x.f1.length - i = dd →
    Ev (fun k => spec_l16Blocks.l0 k i d b p x.f0 x.f1 x.f2 x.f3 x.f4 x.f5) (((List.range x.f1.length).drop i).all (placeAt b x.f1)) := by
  induction dd with
  | zero =>
    intro i h1 h2
    rw [List.drop_of_length_le (by rw [List.length_range]; omega)]
    refine Ev.step (f := fun _ => some true) (fun k => ?_) (Ev.now _)
    rw [spec_l16Blocks.l0, if_neg (by omega)]
  | succ dd ih =>
    intro i h1 h2
    have hi : i < x.f1.length := by omega
    have ei : wrap64 ((i : Int) + 1) = ((i + 1 : Nat) : Int) := by unfold wrap64; omega
    have ih1 := ih (i + 1) (by omega) (by omega)
    rw [List.drop_eq_getElem_cons (by rw [List.length_range]; exact hi), List.all_cons, List.getElem_range]
    have ep := place_sum hb i (by omega)
    cases c : placeAt b x.f1 i with
    | true =>
      rw [Bool.true_and]
      refine Ev.step (fun k => ?_) ih1
      rw [spec_l16Blocks.l0, if_pos (by omega), if_pos (by omega), if_pos (by omega), ei, l00In_eq, ← ep]
      unfold placeAt at c
      rw [c, Option.bind_some, if_pos rfl]
    | false =>
      rw [Bool.false_and]
      refine Ev.step (f := fun _ => some false) (fun k => ?_) (Ev.now _)
      rw [spec_l16Blocks.l0, if_pos (by omega), if_pos (by omega), if_pos (by omega), ei, l00In_eq, ← ep]
      unfold placeAt at c
      rw [c, Option.bind_some, if_neg (by decide)]
theorem blocks_ev {d b : Int} (p : Int) (x : S50) (hd : 2 ≤ d ∧ d ≤ 3) (hb : 4 ≤ b ∧ b ≤ 12) : Ev (fun k => spec_l16Blocks.f k d b p x.f0 x.f1 x.f2 x.f3 x.f4 x.f5) (placesB d b x.f1) := by
  unfold spec_l16Blocks.f placesB
  by_cases c : (x.f1.length : Int) = d
  · rw [show ((x.f1.length : Int) == d) = true from by simp [c], Bool.true_and]
    have := blocks_loop (p := p) x hd hb c x.f1.length 0 (by omega) (by omega)
    rw [List.drop_zero] at this
    exact Ev.if_pos c this
  · rw [show ((x.f1.length : Int) == d) = false from by simp [c], Bool.false_and]
    exact Ev.if_neg c (Ev.now _)
theorem sumS_loop (l : List Int) (hl : l.length ≤ 9223372036854775806) (d : Nat) : ∀ (i : Nat) (s : Int), i ≤ l.length → l.length - i = d → Ev (fun k => spec_l16Sum.l0 k l s i) (sumW (l.drop i) s) := by
  induction d with
  | zero =>
    intro i s h1 h2
    rw [List.drop_of_length_le (by omega)]
    refine Ev.step (f := fun _ => some s) (fun k => ?_) (Ev.now _)
    rw [spec_l16Sum.l0, if_neg (by omega)]
  | succ d ih =>
    intro i s h1 h2
    have hi : i < l.length := by omega
    have e1 : rd l (i : Int) = l[i] := by simp [rd, hi]
    have ei : wrap64 ((i : Int) + 1) = ((i + 1 : Nat) : Int) := by unfold wrap64; omega
    have ih1 := ih (i + 1) (wrap64 (s + l[i])) (by omega) (by omega)
    rw [List.drop_eq_getElem_cons hi, sumW]
    refine Ev.step (fun k => ?_) ih1
    rw [spec_l16Sum.l0, if_pos (by omega), if_pos (by omega), e1, ei]
theorem sumS_ev (l : List Int) (hl : l.length ≤ 9223372036854775806) : Ev (fun k => spec_l16Sum.f k l) (sumW l 0) := by
  have := sumS_loop l hl l.length 0 0 (by omega) (by omega)
  rw [List.drop_zero] at this
  exact this
def endB (x : S50) : Bool := (x.f3 == sumW x.f4 0) && (x.f2 == wrap64 (x.f3 + (x.f5.length : Int)))
theorem buf_loop (x : S50) (h4 : x.f4.length ≤ 9223372036854775806) (h5 : x.f5.length ≤ 9223372036854775806) (dd : Nat) : ∀ i : Nat, i ≤ x.f5.length → x.f5.length - i = dd →
    Ev (fun k => spec_l16Counts.l1 k i x.f0 x.f1 x.f2 x.f3 x.f4 x.f5) (!((x.f5.drop i).any longS) && endB x) := by
  induction dd with
  | zero =>
    intro i h1 h2
    rw [List.drop_of_length_le (by omega), List.any_nil, Bool.not_false, Bool.true_and]
    unfold endB
    by_cases c : x.f3 = sumW x.f4 0
    · rw [show (x.f3 == sumW x.f4 0) = true from by simpa using c, Bool.true_and]
      refine Ev.step1 (f := fun _ => some (x.f2 == wrap64 (x.f3 + (x.f5.length : Int)))) (sumS_ev x.f4 h4) (fun k hk => ?_) (Ev.now _)
      rw [spec_l16Counts.l1, if_neg (by omega), hk, Option.bind_some, if_pos c]
    · rw [show (x.f3 == sumW x.f4 0) = false from by simpa using c, Bool.false_and]
      refine Ev.step1 (f := fun _ => some false) (sumS_ev x.f4 h4) (fun k hk => ?_) (Ev.now _)
      rw [spec_l16Counts.l1, if_neg (by omega), hk, Option.bind_some, if_neg c]
  | succ dd ih =>
    intro i h1 h2
    have hi : i < x.f5.length := by omega
    have e1 := rdB_get x.f5 i hi
    have ei : wrap64 ((i : Int) + 1) = ((i + 1 : Nat) : Int) := by unfold wrap64; omega
    have ih1 := ih (i + 1) (by omega) (by omega)
    rw [List.drop_eq_getElem_cons hi, List.any_cons]
    by_cases c : (x.f5[i].size : Int) > 64
    · rw [show longS x.f5[i] = true from decide_eq_true c, Bool.true_or, Bool.not_true, Bool.false_and]
      refine Ev.step (f := fun _ => some false) (fun k => ?_) (Ev.now _)
      rw [spec_l16Counts.l1, if_pos (by omega), if_pos (by omega), e1, if_pos c]
    · rw [show longS x.f5[i] = false from decide_eq_false c, Bool.false_or]
      refine Ev.step (fun k => ?_) ih1
      rw [spec_l16Counts.l1, if_pos (by omega), if_pos (by omega), e1, if_neg c, ei]
theorem rows_loop {d b p : Int} (x : S50) (h4 : x.f4.length ≤ 9223372036854775806) (h5 : x.f5.length ≤ 9223372036854775806) (dd : Nat) : ∀ i : Nat, i ≤ x.f4.length → x.f4.length - i = dd →
    Ev (fun k => spec_l16Counts.l0 k i d b p x.f0 x.f1 x.f2 x.f3 x.f4 x.f5) (allIn (x.f4.drop i) 1 (wrap64 (d - 1)) && (!(x.f5.any longS) && endB x)) := by
  induction dd with
  | zero =>
    intro i h1 h2
    rw [List.drop_of_length_le (by omega), show allIn [] 1 (wrap64 (d - 1)) = true from rfl, Bool.true_and]
    have e := buf_loop x h4 h5 x.f5.length 0 (by omega) (by omega)
    rw [List.drop_zero] at e
    refine Ev.step (fun k => ?_) e
    rw [spec_l16Counts.l0, if_neg (by omega)]
    rfl
  | succ dd ih =>
    intro i h1 h2
    have hi : i < x.f4.length := by omega
    have e1 : rd x.f4 (i : Int) = x.f4[i] := by simp [rd, hi]
    have ei : wrap64 ((i : Int) + 1) = ((i + 1 : Nat) : Int) := by unfold wrap64; omega
    have ih1 := ih (i + 1) (by omega) (by omega)
    rw [List.drop_eq_getElem_cons hi]
    unfold allIn at ih1 ⊢
    rw [List.all_cons]
    cases c : decide (1 ≤ x.f4[i] ∧ x.f4[i] ≤ wrap64 (d - 1)) with
    | true =>
      rw [Bool.true_and]
      refine Ev.step (fun k => ?_) ih1
      rw [spec_l16Counts.l0, if_pos (by omega), if_pos (by omega), e1, l00In_eq, c, Option.bind_some, if_pos rfl, ei]
    | false =>
      rw [Bool.false_and, Bool.false_and]
      refine Ev.step (f := fun _ => some false) (fun k => ?_) (Ev.now _)
      rw [spec_l16Counts.l0, if_pos (by omega), if_pos (by omega), e1, l00In_eq, c, Option.bind_some, if_neg (by decide)]
theorem counts_ev (d b p : Int) (x : S50) (h4 : x.f4.length ≤ 9223372036854775806) (h5 : x.f5.length ≤ 9223372036854775806) : Ev (fun k => spec_l16Counts.f k d b p x.f0 x.f1 x.f2 x.f3 x.f4 x.f5) (contB d p x) := by
  have off : Ev (fun k => spec_l16Counts.j0 k true d b p x.f0 x.f1 x.f2 x.f3 x.f4 x.f5) false := Ev.step (f := fun _ => some false) (fun k => by rw [spec_l16Counts.j0, if_pos rfl]) (Ev.now _)
  unfold spec_l16Counts.f contB
  by_cases c1 : (x.f4.length : Int) > p
  · rw [decide_eq_true (p := p < (x.f4.length : Int)) c1, Bool.not_true, Bool.false_and]
    exact Ev.if_pos c1 off
  · rw [decide_eq_false (p := p < (x.f4.length : Int)) c1, Bool.not_false, Bool.true_and]
    refine Ev.if_neg c1 ?_
    by_cases c2 : (x.f5.length : Int) ≥ wrap64 (d - 1)
    · rw [decide_eq_true c2, Bool.not_true, Bool.false_and, Bool.and_false]
      exact off
    · rw [decide_eq_false c2, Bool.not_false, Bool.true_and]
      have e := rows_loop (d := d) (b := b) (p := p) x h4 h5 x.f4.length 0 (by omega) (by omega)
      rw [List.drop_zero] at e
      have q : (allIn x.f4 1 (wrap64 (d - 1)) && ((x.f3 == sumW x.f4 0) && ((x.f2 == wrap64 (x.f3 + (x.f5.length : Int))) && !(x.f5.any longS)))) = (allIn x.f4 1 (wrap64 (d - 1)) && (!(x.f5.any longS) && endB x)) := by
        unfold endB
        cases allIn x.f4 1 (wrap64 (d - 1)) <;> cases (x.f3 == sumW x.f4 0) <;> cases (x.f2 == wrap64 (x.f3 + (x.f5.length : Int))) <;> cases (x.f5.any longS) <;> rfl
      rw [q]
      refine Ev.step (fun k => ?_) e
      rw [spec_l16Counts.j0, if_neg (by decide)]
      rfl
theorem next_loop {d b p : Int} {L : List (S68)} {u v : Int} {o : Bool} {z : Int} (x : S50) (h1 : x.f1.length ≤ 9223372036854775806) (hin : ∀ y ∈ x.f1, 0 ≤ y ∧ y < L.length) (dd : Nat) : ∀ i : Nat, i ≤ x.f1.length → x.f1.length - i = dd →
    Ev (fun k => spec_l16State.l0 k (x.f4.length : Int) i d b p L u v o z x.f0 x.f1 x.f2 x.f3 x.f4 x.f5) (!((x.f1.drop i).any fun y => (rd_T68 L y).f1 != (x.f4.length : Int))) := by
  induction dd with
  | zero =>
    intro i h1 h2
    rw [List.drop_of_length_le (by omega), List.any_nil]
    refine Ev.step (f := fun _ => some true) (fun k => ?_) (Ev.now _)
    rw [spec_l16State.l0, if_neg (by omega)]
  | succ dd ih =>
    intro i h1 h2
    have hi : i < x.f1.length := by omega
    have e1 : rd x.f1 (i : Int) = x.f1[i] := by simp [rd, hi]
    have ei : wrap64 ((i : Int) + 1) = ((i + 1 : Nat) : Int) := by unfold wrap64; omega
    have ih1 := ih (i + 1) (by omega) (by omega)
    have hy := hin x.f1[i] (List.getElem_mem hi)
    rw [List.drop_eq_getElem_cons hi, List.any_cons]
    by_cases c : (rd_T68 L x.f1[i]).f1 = (x.f4.length : Int)
    · rw [show ((rd_T68 L x.f1[i]).f1 != (x.f4.length : Int)) = false from by simp [c], Bool.false_or]
      refine Ev.step (fun k => ?_) ih1
      rw [spec_l16State.l0, if_pos (by omega), if_pos (by omega), e1, if_pos hy.1, if_pos hy.2, if_pos c, ei]
    · rw [show ((rd_T68 L x.f1[i]).f1 != (x.f4.length : Int)) = true from by simp [c], Bool.true_or, Bool.not_true]
      refine Ev.step (f := fun _ => some false) (fun k => ?_) (Ev.now _)
      rw [spec_l16State.l0, if_pos (by omega), if_pos (by omega), e1, if_pos hy.1, if_pos hy.2, if_neg c]
theorem sumW_bounds : ∀ (l : List Int) (s : Int), (∀ y ∈ l, 1 ≤ y ∧ y ≤ 2) → 0 ≤ s → s + 2 * l.length ≤ 1000 → s + l.length ≤ sumW l s ∧ sumW l s ≤ s + 2 * l.length
  | [], s, _, _, _ => by simp [sumW]
  | y :: l, s, h, h0, h1 => by
    have hy := h y (by simp)
    rw [List.length_cons] at h1 ⊢
    have ew : wrap64 (s + y) = s + y := by unfold wrap64; omega
    have ih := sumW_bounds l (s + y) (fun q hq => h q (by simp [hq])) (by omega) (by omega)
    rw [sumW, ew]
    omega
theorem cont_counts {d p : Int} {x : S50} (hd : 2 ≤ d ∧ d ≤ 3) (hp : p = 8 ∨ p = 16) (h : contB d p x = true) : (x.f4.length : Int) ≤ p ∧ (x.f4.length : Int) + x.f5.length ≤ x.f2 ∧ x.f2 ≤ 2 * x.f4.length + x.f5.length := by
  unfold contB at h
  simp only [Bool.and_eq_true, Bool.not_eq_true', decide_eq_false_iff_not, beq_iff_eq] at h
  obtain ⟨h1, h2, h3, h4, h5, h6⟩ := h
  have ed : wrap64 (d - 1) = d - 1 := by unfold wrap64; omega
  rw [ed] at h2 h3
  have hb := sumW_bounds x.f4 0 (fun y hy => by have q := of_decide_eq_true (List.all_eq_true.1 h2 y hy); omega) (by omega) (by omega)
  rw [← h4] at hb
  have ew : wrap64 (x.f3 + (x.f5.length : Int)) = x.f3 + (x.f5.length : Int) := by unfold wrap64; omega
  rw [ew] at h5
  omega
theorem state_ev {d b p : Int} {L : List (S68)} {u v : Int} {o : Bool} {z : Int} (x : S50) (h1 : x.f1.length ≤ 9223372036854775806) (hin : ∀ y ∈ x.f1, 0 ≤ y ∧ y < L.length)
    (hc : (x.f4.length : Int) ≤ p ∧ (x.f4.length : Int) + x.f5.length ≤ x.f2 ∧ x.f2 ≤ 2 * x.f4.length + x.f5.length) : Ev (fun k => spec_l16State.f k d b p L u v o z x.f0 x.f1 x.f2 x.f3 x.f4 x.f5) (zstateB p L x) := by
  have e := next_loop (d := d) (b := b) (p := p) (u := u) (v := v) (o := o) (z := z) x h1 hin x.f1.length 0 (by omega) (by omega)
  rw [List.drop_zero] at e
  have ej : Ev (fun k => spec_l16State.j0 k (x.f4.length : Int) d b p L u v o z x.f0 x.f1 x.f2 x.f3 x.f4 x.f5) (readyB L x) := Ev.step (fun k => by rw [spec_l16State.j0]; rfl) e
  unfold spec_l16State.f zstateB stateV
  by_cases c3 : x.f0 = 3
  · rw [if_neg (show ¬ x.f0 = 1 by omega), if_neg (show ¬ x.f0 = 2 by omega), if_pos c3]
    exact Ev.if_pos c3 (Ev.now _)
  refine Ev.if_neg c3 ?_
  by_cases c4 : x.f0 = 4
  · rw [if_neg (show ¬ x.f0 = 1 by omega), if_neg (show ¬ x.f0 = 2 by omega), if_neg (show ¬ x.f0 = 3 by omega), if_pos c4]
    refine Ev.if_pos c4 ?_
    by_cases c : (x.f4.length : Int) = 0
    · rw [show (x.f2 == 0) = ((x.f5.length : Int) == 0) from by rw [Bool.eq_iff_iff, beq_iff_eq, beq_iff_eq]; omega]
      exact Ev.if_pos c (Ev.now _)
    · rw [show (x.f2 == 0) = false from by rw [beq_eq_false_iff_ne]; omega]
      exact Ev.if_neg c (Ev.now _)
  refine Ev.if_neg c4 ?_
  by_cases c1 : x.f0 = 1
  · rw [if_pos c1]
    refine Ev.if_pos c1 ?_
    by_cases c : (x.f4.length : Int) > 0
    · rw [show (x.f2 == 0) = false from by rw [beq_eq_false_iff_ne]; omega, Bool.false_and]
      exact Ev.if_pos c (Ev.now _)
    refine Ev.if_neg c ?_
    by_cases c5 : (x.f5.length : Int) > 0
    · rw [show (x.f2 == 0) = false from by rw [beq_eq_false_iff_ne]; omega, Bool.false_and]
      exact Ev.if_pos c5 (Ev.now _)
    · rw [show (x.f2 == 0) = true from by rw [beq_iff_eq]; omega, Bool.true_and]
      exact Ev.if_neg c5 ej
  rw [if_neg c1]
  refine Ev.if_neg c1 ?_
  by_cases c2 : x.f0 = 2
  · rw [if_pos c2]
    refine Ev.if_pos c2 ?_
    have tail : 0 < x.f2 → Ev (fun k => if (x.f4.length : Int) ≥ p then some false else spec_l16State.j0 k (x.f4.length : Int) d b p L u v o z x.f0 x.f1 x.f2 x.f3 x.f4 x.f5) (decide (0 < x.f2) && (decide ((x.f4.length : Int) < p) && readyB L x)) := by
      intro hz
      rw [decide_eq_true hz, Bool.true_and]
      by_cases c : (x.f4.length : Int) ≥ p
      · rw [decide_eq_false (by omega), Bool.false_and]
        exact Ev.if_pos c (Ev.now _)
      · rw [decide_eq_true (by omega), Bool.true_and]
        exact Ev.if_neg c ej
    by_cases c : (x.f4.length : Int) = 0
    · refine Ev.if_pos c ?_
      by_cases c5 : (x.f5.length : Int) = 0
      · rw [decide_eq_false (by omega), Bool.false_and]
        exact Ev.if_pos c5 (Ev.now _)
      · exact Ev.if_neg c5 (tail (by omega))
    · exact Ev.if_neg c (tail (by omega))
  rw [if_neg c2, if_neg c3, if_neg c4]
  exact Ev.if_neg c2 (Ev.now _)
theorem fresh_loop {d b p : Int} {L : List (S68)} {u v : Int} {o : Bool} {z : Int} {Zs : List (S50)} (x : S50) (ii : Int) (rest : Bool) (dd : Nat) : ∀ (used : List Int) (i : Nat), i ≤ x.f1.length → x.f1.length - i = dd → used.length + dd ≤ 1000 → x.f1.length ≤ 1000 →
    Ev (fun k => spec_ValidDevice.l0 k (used ++ x.f1.drop i) (wrap64 (ii + 1)) d b p L u v o z Zs) rest →
    Ev (fun k => spec_ValidDevice.l1 k used ii i d b p L u v o z Zs x.f0 x.f1 x.f2 x.f3 x.f4 x.f5) (freshB used (x.f1.drop i) && rest) := by
  induction dd with
  | zero =>
    intro used i h1 h2 h3 h4 hr
    rw [List.drop_of_length_le (by omega), List.append_nil] at hr
    rw [List.drop_of_length_le (by omega), show freshB used [] = true from rfl, Bool.true_and]
    refine Ev.step (fun k => ?_) hr
    rw [spec_ValidDevice.l1, if_neg (by omega)]
  | succ dd ih =>
    intro used i h1 h2 h3 h4 hr
    have hi : i < x.f1.length := by omega
    have e1 : rd x.f1 (i : Int) = x.f1[i] := by simp [rd, hi]
    have ei : wrap64 ((i : Int) + 1) = ((i + 1 : Nat) : Int) := by unfold wrap64; omega
    rw [List.drop_eq_getElem_cons hi] at hr ⊢
    have ih1 := ih (used ++ [x.f1[i]]) (i + 1) (by omega) (by omega) (by rw [List.length_append, List.length_singleton]; omega) h4 (by rw [List.append_assoc]; exact hr)
    rw [freshB]
    have eh := hasN_ev used x.f1[i] (by omega)
    cases c : used.any fun q => q == x.f1[i] with
    | true =>
      rw [c] at eh
      rw [Bool.not_true, Bool.false_and, Bool.false_and]
      refine Ev.step1 (f := fun _ => some false) eh (fun k hk => ?_) (Ev.now _)
      rw [spec_ValidDevice.l1, if_pos (by omega), if_pos (by omega), e1, hk, Option.bind_some, if_pos rfl]
    | false =>
      rw [c] at eh
      rw [Bool.not_false, Bool.true_and]
      refine Ev.step1 eh (fun k hk => ?_) ih1
      rw [spec_ValidDevice.l1, if_pos (by omega), if_pos (by omega), e1, hk, Option.bind_some, if_neg (by decide), if_pos (by omega), ei]
theorem zones_loop {d b p : Int} {L : List (S68)} {u v : Int} {o : Bool} {z : Int} {Zs : List (S50)} (hd : 2 ≤ d ∧ d ≤ 3) (hb : 4 ≤ b ∧ b ≤ 12) (hp : p = 8 ∨ p = 16) (hL : (L.length : Int) = wrap64 (d * b))
    (hz : ∀ x ∈ Zs, x.f1.length ≤ 9223372036854775806 ∧ x.f4.length ≤ 9223372036854775806 ∧ x.f5.length ≤ 9223372036854775806) (hl : Zs.length ≤ 12) (dd : Nat) : ∀ (used : List Int) (i : Nat), i ≤ Zs.length → Zs.length - i = dd → used.length ≤ 3 * i →
    Ev (fun k => spec_ValidDevice.l0 k used i d b p L u v o z Zs) (zonesB d b p L used (Zs.drop i)) := by
  induction dd with
  | zero =>
    intro used i h1 h2 h3
    rw [List.drop_of_length_le (by omega)]
    refine Ev.step (f := fun _ => some true) (fun k => ?_) (Ev.now _)
    rw [spec_ValidDevice.l0, if_neg (by omega)]
  | succ dd ih =>
    intro used i h1 h2 h3
    have hi : i < Zs.length := by omega
    have e1 := rdZ_get Zs i hi
    have ei : wrap64 ((i : Int) + 1) = ((i + 1 : Nat) : Int) := by unfold wrap64; omega
    have hx := hz Zs[i] (List.getElem_mem hi)
    rw [List.drop_eq_getElem_cons hi]
    generalize hxx : Zs[i] = x at e1 hx ⊢
    rw [zonesB]
    unfold zoneB
    have eb := blocks_ev p x hd hb
    have ec := counts_ev d b p x hx.2.1 hx.2.2
    have off : ∀ c, Ev (fun k => spec_ValidDevice.j2 k used i true d b p L u v o z Zs x.f0 x.f1 x.f2 x.f3 x.f4 x.f5) (false && c) := fun c => Ev.step (f := fun _ => some false) (fun k => by rw [spec_ValidDevice.j2, if_pos rfl]) (Ev.now _)
    cases cp : placesB d b x.f1 with
    | false =>
      rw [cp] at eb
      rw [Bool.false_and]
      refine Ev.step1 eb (fun k hk => ?_) (off _)
      rw [spec_ValidDevice.l0, if_pos (by omega), if_pos (by omega), e1, hk, Option.bind_some, if_neg (by decide)]
    | true =>
      rw [cp] at eb
      rw [Bool.true_and]
      have hpl := place_in hd hb cp
      cases cc : contB d p x with
      | false =>
        rw [cc] at ec
        rw [Bool.false_and]
        refine Ev.step2 eb ec (fun k hk hk2 => ?_) (off _)
        rw [spec_ValidDevice.l0, if_pos (by omega), if_pos (by omega), e1, hk, Option.bind_some, if_pos rfl, hk2, Option.bind_some, if_neg (by decide)]
      | true =>
        rw [cc] at ec
        rw [Bool.true_and]
        have es := state_ev (d := d) (b := b) (p := p) (L := L) (u := u) (v := v) (o := o) (z := z) x hx.1 (fun y hy => by have q := hpl.2 y hy; omega) (cont_counts hd hp cc)
        cases cs : zstateB p L x with
        | false =>
          rw [cs] at es
          refine Ev.step3 eb ec es (fun k hk hk2 hk3 => ?_) (off _)
          rw [spec_ValidDevice.l0, if_pos (by omega), if_pos (by omega), e1, hk, Option.bind_some, if_pos rfl, hk2, Option.bind_some, if_pos rfl, hk3, Option.bind_some]
          rfl
        | true =>
          rw [cs] at es
          rw [Bool.true_and]
          have hlen : x.f1.length ≤ 3 := by omega
          have ih1 := ih (used ++ x.f1) (i + 1) (by omega) (by omega) (by rw [List.length_append]; omega)
          have ef := fresh_loop (d := d) (b := b) (p := p) (L := L) (u := u) (v := v) (o := o) (z := z) (Zs := Zs) x (i : Int) _ x.f1.length used 0 (by omega) (by omega) (by omega) (by omega) (by rw [List.drop_zero, ei]; exact ih1)
          rw [List.drop_zero] at ef
          have ej : Ev (fun k => spec_ValidDevice.j2 k used i false d b p L u v o z Zs x.f0 x.f1 x.f2 x.f3 x.f4 x.f5) _ := Ev.step (fun k => by rw [spec_ValidDevice.j2, if_neg (by decide)]; rfl) ef
          refine Ev.step3 eb ec es (fun k hk hk2 hk3 => ?_) ej
          rw [spec_ValidDevice.l0, if_pos (by omega), if_pos (by omega), e1, hk, Option.bind_some, if_pos rfl, hk2, Option.bind_some, if_pos rfl, hk3, Option.bind_some]
          rfl
theorem sdev_ev (d b p : Int) (L : List (S68)) (u v : Int) (o : Bool) (z : Int) (Zs : List (S50)) (hs : ∀ x ∈ L, x.f3.length ≤ 9223372036854775807) (hL : L.length ≤ 9223372036854775806)
    (hz : ∀ x ∈ Zs, x.f1.length ≤ 9223372036854775806 ∧ x.f4.length ≤ 9223372036854775806 ∧ x.f5.length ≤ 9223372036854775806) : Ev (fun k => spec_ValidDevice.f k d b p L u v o z Zs) (devB d b p L u v z Zs) := by
  have off : ∀ c, Ev (fun k => spec_ValidDevice.j0 k true d b p L u v o z Zs) (false && c) := fun c => Ev.step (f := fun _ => some false) (fun k => by rw [spec_ValidDevice.j0, if_pos rfl]) (Ev.now _)
  have ef := sflash_ev d b p L u v o z hs hL
  unfold spec_ValidDevice.f devB
  cases cf : flashB d b p L u v z with
  | false =>
    rw [cf] at ef
    exact Ev.bind ef (Ev.if_neg (by decide) (off _))
  | true =>
    rw [cf] at ef
    obtain ⟨hd, hb, hp, hl⟩ := flash_bounds cf
    rw [Bool.true_and]
    refine Ev.bind ef (Ev.if_pos rfl ?_)
    by_cases c1 : (Zs.length : Int) < 1
    · rw [decide_eq_false (by omega)]
      exact Ev.if_pos c1 (off _)
    · refine Ev.if_neg c1 ?_
      have em : spec_l00Min.f 12 b = some (if b < 12 then b else 12) := by
        unfold spec_l00Min.f
        split <;> split <;> first | rfl | omega | (congr 1; omega)
      refine Ev.bind1 em ?_
      have hm : (if b < 12 then b else 12) ≤ 12 := by split <;> omega
      generalize (if b < 12 then b else 12) = lm at hm
      by_cases c2 : (Zs.length : Int) > lm
      · rw [decide_eq_true c2, decide_eq_false (by omega)]
        exact off _
      · rw [decide_eq_false c2, decide_eq_true (by omega), Bool.true_and]
        have e := zones_loop (L := L) (u := u) (v := v) (o := o) (z := z) hd hb hp hl hz (by omega) Zs.length [] 0 (by omega) (by omega) (Nat.zero_le _)
        rw [List.drop_zero] at e
        refine Ev.step (fun k => ?_) e
        rw [spec_ValidDevice.j0, if_neg (by decide)]
        rfl
end Go.Proofs.Ytdjbphffibcbeaa.Q
