/- The law FnExactValidWipe, as a statement over numbers and lists. No condition. -/
import Derived.Test.YtaecdlhomihejaaSayFnExactValidWipe
import Derived.Test.YtaecdlhomihejaaXFlash
import Derived.Test.YtaecdlhomihejaaFlashC
import Derived.Test.YtaecdlhomihejaaFlashS
import Derived.Test.YtaecdlhomihejaaCpInt64
import Derived.Test.YtaecdlhomihejaaEqInt64S
namespace Go.Proofs.Ytaecdlhomihejaa.Pure
open Go.RowKit Go.Proofs.Ytaecdlhomihejaa.Q Go.Proofs.YtaecdlhomihejaaW.PrintWords
def incFrom : Int → List Int → Bool
  | _, [] => true
  | p, x :: r => decide (p < x) && incFrom x r
def incB : List Int → Bool
  | [] => true
  | x :: r => incFrom x r
def pvB : Option Int → Int → Bool
  | none, _ => true
  | some q, x => decide (q < x)
def risB (lo hi : Int) : Option Int → List Int → Bool
  | _, [] => true
  | p, x :: r => decide (lo ≤ x ∧ x ≤ hi) && (pvB p x && risB lo hi (some x) r)
theorem risB_some (lo hi : Int) : ∀ (l : List Int) (q : Int), risB lo hi (some q) l = (incFrom q l && allIn l lo hi)
  | [], q => rfl
  | x :: r, q => by
    rw [risB, risB_some lo hi r x]
    simp only [incFrom, allIn, List.all_cons, pvB]
    cases decide (lo ≤ x ∧ x ≤ hi) <;> cases decide (q < x) <;> cases incFrom x r <;> simp
theorem risB_none (lo hi : Int) (l : List Int) : risB lo hi none l = (incB l && allIn l lo hi) := by
  cases l with
  | nil => rfl
  | cons x r =>
    rw [risB, risB_some lo hi r x]
    simp only [incB, allIn, List.all_cons, pvB]
    cases decide (lo ≤ x ∧ x ≤ hi) <;> cases incFrom x r <;> simp
theorem inc_loop (l : List Int) (hl : l.length ≤ 9223372036854775806) (d : Nat) : ∀ i : Nat, 1 ≤ i → i ≤ l.length → l.length - i = d → Ev (fun k => impl_increasing.l0 k l i) (incFrom (rd l ((i - 1 : Nat) : Int)) (l.drop i)) := by
  induction d with
  | zero =>
    intro i h0 h1 h2
    rw [List.drop_of_length_le (by omega)]
    refine Ev.step (f := fun _ => some true) (fun k => ?_) (Ev.now _)
    rw [impl_increasing.l0, if_neg (by omega)]
  | succ d ih =>
    intro i h0 h1 h2
    have hi : i < l.length := by omega
    rw [List.drop_eq_getElem_cons hi, incFrom]
    have ih1 := ih (i + 1) (by omega) (by omega) (by omega)
    rw [Nat.add_sub_cancel, rd_get l i hi] at ih1
    have e1 : wrap64 ((i : Int) - 1) = ((i - 1 : Nat) : Int) := by unfold wrap64; omega
    by_cases c : rd l (i : Int) ≤ rd l ((i - 1 : Nat) : Int)
    · rw [decide_eq_false (by rw [← rd_get l i hi]; omega), Bool.false_and]
      refine Ev.step (f := fun _ => some false) (fun k => ?_) (Ev.now _)
      rw [impl_increasing.l0, if_pos (by omega), if_pos (by omega), e1, if_pos (by omega), if_pos (by omega), if_pos c]
    · rw [decide_eq_true (by rw [← rd_get l i hi]; omega), Bool.true_and]
      refine Ev.step (fun k => ?_) ih1
      rw [impl_increasing.l0, if_pos (by omega), if_pos (by omega), e1, if_pos (by omega), if_pos (by omega), if_neg c, wrap64_id (by omega) (by omega)]
      rfl
theorem inc_ev (l : List Int) (hl : l.length ≤ 9223372036854775806) : Ev (fun k => impl_increasing.f k l) (incB l) := by
  cases l with
  | nil =>
    refine Ev.step (f := fun _ => some true) (fun k => ?_) (Ev.now _)
    unfold impl_increasing.f
    rw [impl_increasing.l0, if_neg (by simp)]
  | cons x r =>
    have := inc_loop (x :: r) hl _ 1 (by omega) (by simp) rfl
    exact this
theorem ris_loop (l : List Int) (lo hi : Int) (hl : l.length ≤ 9223372036854775806) (d : Nat) : ∀ i : Nat, i ≤ l.length → l.length - i = d → Ev (fun k => spec_l00Rises.l0 k l lo hi i) (risB lo hi (if i = 0 then none else some (rd l ((i - 1 : Nat) : Int))) (l.drop i)) := by
  induction d with
  | zero =>
    intro i h1 h2
    rw [List.drop_of_length_le (by omega)]
    refine Ev.step (f := fun _ => some true) (fun k => ?_) (Ev.now _)
    rw [spec_l00Rises.l0, if_neg (by omega)]
  | succ d ih =>
    intro i h1 h2
    have hi' : i < l.length := by omega
    have ih1 := ih (i + 1) (by omega) (by omega)
    rw [Nat.add_sub_cancel, if_neg (by omega), rd_get l i hi'] at ih1
    have ei : wrap64 ((i : Int) + 1) = ((i + 1 : Nat) : Int) := by unfold wrap64; omega
    rw [List.drop_eq_getElem_cons hi', risB, ← rd_get l i hi']
    rw [← rd_get l i hi'] at ih1
    by_cases c : lo ≤ rd l (i : Int) ∧ rd l (i : Int) ≤ hi
    · rw [decide_eq_true c, Bool.true_and]
      by_cases h0 : i = 0
      · rw [if_pos h0]
        simp only [pvB, Bool.true_and]
        refine Ev.step (fun k => ?_) ih1
        rw [spec_l00Rises.l0, if_pos (by omega), if_pos (by omega), l00In_eq, decide_eq_true c]
        simp only [Option.bind_some]
        rw [if_pos trivial, if_neg (by omega), ei]
      · rw [if_neg h0]
        simp only [pvB]
        have e1 : wrap64 ((i : Int) - 1) = ((i - 1 : Nat) : Int) := by unfold wrap64; omega
        by_cases c2 : rd l ((i - 1 : Nat) : Int) ≥ rd l (i : Int)
        · rw [decide_eq_false (by omega), Bool.false_and]
          refine Ev.step (f := fun _ => some false) (fun k => ?_) (Ev.now _)
          rw [spec_l00Rises.l0, if_pos (by omega), if_pos (by omega), l00In_eq, decide_eq_true c]
          simp only [Option.bind_some]
          rw [if_pos trivial, if_pos (by omega), e1, if_pos (by omega), if_pos (by omega), if_pos c2]
        · rw [decide_eq_true (by omega), Bool.true_and]
          refine Ev.step (fun k => ?_) ih1
          rw [spec_l00Rises.l0, if_pos (by omega), if_pos (by omega), l00In_eq, decide_eq_true c]
          simp only [Option.bind_some]
          rw [if_pos trivial, if_pos (by omega), e1, if_pos (by omega), if_pos (by omega), if_neg c2, ei]
    · rw [decide_eq_false c, Bool.false_and]
      refine Ev.step (f := fun _ => some false) (fun k => ?_) (Ev.now _)
      rw [spec_l00Rises.l0, if_pos (by omega), if_pos (by omega), l00In_eq, decide_eq_false c]
      simp only [Option.bind_some]
      first | rfl | rw [if_neg (by decide)]
theorem ris_ev (l : List Int) (lo hi : Int) (hl : l.length ≤ 9223372036854775806) : Ev (fun k => spec_l00Rises.f k l lo hi) (incB l && allIn l lo hi) := by
  rw [← risB_none]
  exact ris_loop l lo hi hl _ 0 (by omega) rfl
def wipeB (d b p : Int) (l : List S120) (u v z : Int) (m : List Int) (n : Int) : Bool := flashB d b p l u v z && ((incB m && allIn m 0 ((l.length : Int) - 1)) && decide (0 ≤ n ∧ n ≤ (m.length : Int)))
theorem swipe_ev (d b p : Int) (l : List S120) (u v : Int) (o : Bool) (z : Int) (m : List Int) (n : Int) (hs : ∀ x ∈ l, x.f3.length ≤ 9223372036854775806) (hl : l.length ≤ 9223372036854775806) (hm : m.length ≤ 9223372036854775806) :
    Ev (fun k => spec_ValidWipe.f k d b p l u v o z m n) (wipeB d b p l u v z m n) := by
  have hf := sflash_ev d b p l u v o z (fun x hx => by have := hs x hx; omega) hl
  have hr := ris_ev m 0 ((l.length : Int) - 1) hm
  unfold spec_ValidWipe.f wipeB
  rw [wrap64_id (by omega) (by omega)]
  cases hv : flashB d b p l u v z with
  | false => rw [hv] at hf; exact Ev.bind hf (Ev.if_neg (by decide) (Ev.now _))
  | true =>
    rw [hv] at hf
    rw [Bool.true_and]
    refine Ev.bind hf (Ev.if_pos rfl ?_)
    cases hq : (incB m && allIn m 0 ((l.length : Int) - 1)) with
    | false => rw [hq] at hr; exact Ev.bind hr (Ev.if_neg (by decide) (Ev.now _))
    | true =>
      rw [hq] at hr
      rw [Bool.true_and]
      exact Ev.bind hr (Ev.if_pos rfl (Ev.bind1 (l00In_eq _ _ _) (Ev.now _)))
theorem iwipe_ev (d b p : Int) (l : List S120) (u v : Int) (o : Bool) (z : Int) (m : List Int) (n : Int) (hl : l.length ≤ 9223372036854775806) (hm : m.length ≤ 9223372036854775806) :
    Ev (fun k => impl_ValidWipe.f k d b p l u v o z m n) (wipeB d b p l u v z m n) := by
  unfold impl_ValidWipe.f wipeB
  refine Ev.bind1 (a := flashB d b p l u v z) rfl ?_
  cases hv : flashB d b p l u v z with
  | false => exact Ev.if_neg (by decide) (Ev.now _)
  | true =>
    rw [Bool.true_and]
    refine Ev.if_pos rfl ?_
    have he : wrap64 (d * b) = (l.length : Int) := by
      unfold flashB at hv
      simp only [Bool.and_eq_true, decide_eq_true_eq] at hv
      exact hv.2.1.symm
    have hq : Ev (fun k => impl_blocksOk.f k d b p m) (incB m && allIn m 0 ((l.length : Int) - 1)) := by
      unfold impl_blocksOk.f
      cases hi : incB m with
      | false => exact Ev.bind (hi ▸ inc_ev m hm) (Ev.if_neg (by decide) (Ev.now _))
      | true =>
        refine Ev.bind (hi ▸ inc_ev m hm) (Ev.if_pos rfl (Ev.bind1 rfl (Ev.bind1 (a := allIn m 0 ((l.length : Int) - 1)) ?_ (Ev.now _))))
        unfold impl_allWithin.f
        rw [he, wrap64_id (by omega) (by omega)]
    cases hq' : (incB m && allIn m 0 ((l.length : Int) - 1)) with
    | false => rw [hq'] at hq; exact Ev.bind hq (Ev.if_neg (by decide) (Ev.now _))
    | true =>
      rw [hq'] at hq
      rw [Bool.true_and]
      exact Ev.bind hq (Ev.if_pos rfl (Ev.bind1 (within_eq _ _ _) (Ev.now _)))
theorem FnExactValidWipe : laws_FnExactValidWipe.Pure := by
  intro x y hx hy
  have hm : maxLen ≤ 9223372036854775807 := by decide
  obtain ⟨_, ⟨g0, g1, g2⟩, _⟩ : _ ∧ (x.f1.length ≤ maxLen ∧ x.f1.length * 48 ≤ 140737488351232 ∧ ∀ y ∈ x.f1, _) ∧ _ := hx
  obtain ⟨⟨_, q1, _⟩, _⟩ : (y.f0.length ≤ maxLen ∧ y.f0.length * 8 ≤ 140737488351232 ∧ _) ∧ _ := hy
  have hs : ∀ y ∈ x.f1, okPg y := by
    intro y hy
    obtain ⟨_, _, _, h1, h2, h3⟩ : _ ∧ _ ∧ _ ∧ (y.f3.length ≤ maxLen ∧ y.f3.length * 16 ≤ 140737488351232 ∧ ∀ z ∈ y.f3, z.size ≤ 140737488351232) := g2 y hy
    exact ⟨by omega, h3⟩
  obtain ⟨r1, e1, r10, r11⟩ := szFlash_ev x.f0.f0 x.f0.f1 x.f0.f2 x.f1 x.f2 x.f3 x.f4 x.f5 hs (by omega) 1048576 (by omega) (by omega)
  unfold laws_FnExactValidWipe.f
  refine Ev.rounds (Ev.bind e1 ?_)
  by_cases h1 : r1 < 0
  · exact Ev.if_pos h1 (Ev.now _)
  refine Ev.if_neg h1 ?_
  obtain ⟨r2, e2⟩ : ∃ r, laws_szWipe.f y.f0 y.f1 r1 = some r := by
    unfold laws_szWipe.f laws_szInt64S.f
    by_cases c : wrap64 (r1 - (y.f0.length : Int)) < 0
    · rw [if_pos c]; exact ⟨_, rfl⟩
    · rw [if_neg c]; simp only [Option.bind_some]; rw [if_neg c]; exact ⟨_, rfl⟩
  refine Ev.bind1 e2 ?_
  by_cases h2 : r2 < 0
  · exact Ev.if_pos h2 (Ev.now _)
  refine Ev.if_neg h2 ?_
  have t1 := toFlash_ev x.f0.f0 x.f0.f1 x.f0.f2 x.f1 x.f2 x.f3 x.f4 x.f5 hs (by omega)
  have t2 : Ev (fun k => laws_toWipe.f k y.f0 y.f1) (y.f0, y.f1) := Ev.bind (toInt64S_ev y.f0 (by omega)) (Ev.now _)
  have hb := toB_len x.f1 hs
  have hlen : (x.f1.map toB).length ≤ 9223372036854775806 := by rw [List.length_map]; omega
  have hb' : ∀ y ∈ x.f1.map toB, y.f3.length ≤ 9223372036854775806 := fun y hy => by have := hb y hy; omega
  have p := swipe_ev x.f0.f0 x.f0.f1 x.f0.f2 (x.f1.map toB) x.f2 x.f3 x.f4 x.f5 y.f0 y.f1 hb' hlen (by omega)
  have q := iwipe_ev x.f0.f0 x.f0.f1 x.f0.f2 (x.f1.map toB) x.f2 x.f3 x.f4 x.f5 y.f0 y.f1 hlen (by omega)
  have eq2 : Ev (fun k => laws_eqWipe.f k y.f0 y.f1 y.f0 y.f1) true := by
    have := eqInt64S_ev y.f0 y.f0 (by omega)
    rw [decide_eq_true rfl] at this
    exact Ev.bind this (Ev.if_pos rfl (Ev.if_pos rfl (Ev.now _)))
  exact Ev.bind t1 (Ev.bind t2 (Ev.bind p (Ev.bind t1 (Ev.bind t2 (Ev.bind q (Ev.if_neg (by simp) (Ev.bind t1 (Ev.bind (eqFlash_self x.f0.f0 x.f0.f1 x.f0.f2 (x.f1.map toB) x.f2 x.f3 x.f4 x.f5 hb' hlen) (Ev.if_pos rfl (Ev.bind t2 (Ev.bind eq2 (Ev.if_pos rfl (Ev.now _)))))))))))))
end Go.Proofs.Ytaecdlhomihejaa.Pure
