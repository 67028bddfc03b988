/- The law FnExactErasePasses, as a statement over numbers and lists. No condition. -/
import Derived.Test.YtlafegjmmbkkpaaSayFnExactErasePasses
import Derived.Test.YtlafegjmmbkkpaaCellsOk
import Derived.Test.YtlafegjmmbkkpaaXPasses
namespace Go.Proofs.Ytlafegjmmbkkpaa.Pure
open Go.RowKit Go.Proofs.Ytlafegjmmbkkpaa.Q Go.Proofs.YtlafegjmmbkkpaaW.PrintWords
def mx (a b : Int) : Int := if a > b then a else b
def hp (lev : Int) : Nat → Int → Int
  | 0, _ => 0
  | d + 1, h => if h ≥ lev then 1 + hp lev d (quarter h) else 0
theorem l00Max_eq (a b : Int) : spec_l00Max.f a b = some (mx a b) := by
  unfold spec_l00Max.f mx
  by_cases h : a > b
  · rw [if_pos h, if_pos h]
  · rw [if_neg h, if_neg h]
theorem quarter_eq (x : Int) (h0 : 0 ≤ x) (h1 : x ≤ 255) : quarter x = x / 4 := by
  unfold quarter wrap64
  rw [Int.tdiv_eq_ediv_of_nonneg h0]
  omega
theorem mx_range (a b : Int) (h : 0 ≤ a ∧ a ≤ 255) (h2 : 0 ≤ b ∧ b ≤ 255) : 0 ≤ mx a b ∧ mx a b ≤ 255 := by
  unfold mx
  split <;> omega
theorem fold_range : ∀ (l : List Int) (h : Int), (0 ≤ h ∧ h ≤ 255) → (∀ x ∈ l, 0 ≤ x ∧ x ≤ 255) → 0 ≤ l.foldl mx h ∧ l.foldl mx h ≤ 255
  | [], _, h, _ => h
  | x :: l, h, hh, hl => fold_range l (mx h x) (mx_range _ _ hh (hl x (List.mem_cons_self ..))) (fun y hy => hl y (List.mem_cons_of_mem _ hy))
theorem fold_quarter : ∀ (l : List Int) (h : Int), (0 ≤ h ∧ h ≤ 255) → (∀ x ∈ l, 0 ≤ x ∧ x ≤ 255) → (l.map quarter).foldl mx (quarter h) = quarter (l.foldl mx h)
  | [], _, _, _ => rfl
  | x :: l, h, hh, hl => by
    have hx := hl x (List.mem_cons_self ..)
    have e : mx (quarter h) (quarter x) = quarter (mx h x) := by
      rw [quarter_eq _ hh.1 hh.2, quarter_eq _ hx.1 hx.2]
      unfold mx
      by_cases c : h > x
      · rw [if_pos c, quarter_eq _ hh.1 hh.2]; split <;> omega
      · rw [if_neg c, quarter_eq _ hx.1 hx.2]; split <;> omega
    rw [List.map_cons, List.foldl_cons, List.foldl_cons, e]
    exact fold_quarter l (mx h x) (mx_range _ _ hh hx) (fun y hy => hl y (List.mem_cons_of_mem _ hy))
theorem fold_any (lev : Int) : ∀ (l : List Int) (h : Int), decide (l.foldl mx h ≥ lev) = (decide (h ≥ lev) || l.any fun x => decide (x ≥ lev))
  | [], h => by simp
  | x :: l, h => by
    rw [List.foldl_cons, fold_any lev l, List.any_cons, ← Bool.or_assoc]
    congr 1
    unfold mx
    rw [Bool.eq_iff_iff, Bool.or_eq_true, decide_eq_true_iff, decide_eq_true_iff, decide_eq_true_iff]
    split <;> omega
theorem pass_hp (lev : Int) (h1 : 1 ≤ lev) : ∀ (d : Nat) (l : List Int), (∀ x ∈ l, 0 ≤ x ∧ x ≤ 255) → passL lev d l = hp lev d (l.foldl mx 0)
  | 0, _, _ => rfl
  | d + 1, l, hl => by
    have hz : quarter 0 = 0 := quarter_eq 0 (by omega) (by omega)
    have hm : ∀ x ∈ l.map quarter, 0 ≤ x ∧ x ≤ 255 := fun x hx => by have := map_small l 255 (by omega) (fun y hy => by have := hl y hy; omega) x hx; omega
    have ih := pass_hp lev h1 d (l.map quarter) hm
    have fq := fold_quarter l 0 (by omega) hl
    rw [hz] at fq
    have fa := fold_any lev l 0
    rw [decide_eq_false (show ¬ ((0 : Int) ≥ lev) by omega), Bool.false_or] at fa
    unfold passL hp
    rw [← fa, ih, fq]
    simp only [decide_eq_true_eq]
theorem l1_loop (lev : Int) (h1 : 1 ≤ lev) : ∀ (d : Nat) (h p : Int), (0 ≤ h ∧ h ≤ d ∧ h ≤ 255) → (0 ≤ p ∧ p + d ≤ 1000) → Ev (fun k => spec_ErasePasses.l1 k lev h p) (p + hp lev d h)
  | 0, h, p, hh, hpp => by
    refine Ev.step (f := fun _ => some p) (fun k => ?_) (by show Ev _ (p + 0); rw [Int.add_zero]; exact Ev.now _)
    rw [spec_ErasePasses.l1, if_neg (by omega)]
  | d + 1, h, p, hh, hpp => by
    have ep : wrap64 (p + 1) = p + 1 := by unfold wrap64; omega
    unfold hp
    by_cases c : h ≥ lev
    · rw [if_pos c]
      have hq := quarter_eq h hh.1 hh.2.2
      have := l1_loop lev h1 d (quarter h) (p + 1) (by omega) (by omega)
      rw [show p + (1 + hp lev d (quarter h)) = p + 1 + hp lev d (quarter h) from by omega]
      refine Ev.step (fun k => ?_) this
      rw [spec_ErasePasses.l1, if_pos c, ep]
      rfl
    · rw [if_neg c, Int.add_zero]
      refine Ev.step (f := fun _ => some p) (fun k => ?_) (Ev.now _)
      rw [spec_ErasePasses.l1, if_neg c]
theorem l0_loop (lev : Int) (h1 : 1 ≤ lev) (l : List Int) (hl : (l.length : Int) < 9223372036854775807) (hs : ∀ x ∈ l, 0 ≤ x ∧ x ≤ 255) (d : Nat) : ∀ (i : Nat) (h : Int), i ≤ l.length → l.length - i = d → (0 ≤ h ∧ h ≤ 255) →
    Ev (fun k => spec_ErasePasses.l0 k lev h i l) (hp lev 255 ((l.drop i).foldl mx h)) := by
  induction d with
  | zero =>
    intro i h h2 h3 h4
    rw [List.drop_of_length_le (by omega), List.foldl_nil]
    have := l1_loop lev h1 255 h 0 (by omega) (by omega)
    rw [Int.zero_add] at this
    refine Ev.step (fun k => ?_) this
    rw [spec_ErasePasses.l0, if_neg (by omega)]
  | succ d ih =>
    intro i h h2 h3 h4
    have hi : i < l.length := by omega
    have hx := hs l[i] (List.getElem_mem hi)
    rw [List.drop_eq_getElem_cons hi, List.foldl_cons]
    have hb := rd_get l i hi
    have ei : wrap64 ((i : Int) + 1) = ((i + 1 : Nat) : Int) := by unfold wrap64; omega
    revert hb hx
    generalize l[i]'hi = b
    intro hx hb
    refine Ev.step (fun k => ?_) (ih (i + 1) (mx h b) (by omega) (by omega) (mx_range _ _ h4 hx))
    rw [spec_ErasePasses.l0, if_pos (by omega), if_pos (by omega), hb, l00Max_eq, Option.bind_some, ei]
theorem FnExactErasePasses : laws_FnExactErasePasses.Pure := by
  intro x lev hg _
  have hm : maxLen ≤ 9223372036854775807 := by decide
  obtain ⟨g0, _⟩ : x.f0.length ≤ maxLen ∧ _ := hg
  obtain ⟨r, e, _, q⟩ := szCells_some x.f0 1048576 (by omega) (by omega) (by omega)
  unfold laws_FnExactErasePasses.f
  refine Ev.rounds ?_
  refine Ev.bind1 e ?_
  by_cases h : r < 0
  · exact Ev.if_pos h (Ev.now _)
  refine Ev.if_neg h ?_
  have hn := q (by omega)
  have t := toCells_ev x.f0 (by omega)
  obtain ⟨v, p, i⟩ : ∃ v, Ev (fun k => spec_ErasePasses.f k x.f0 lev) v ∧ impl_ErasePasses.f x.f0 lev = some v := by
    unfold spec_ErasePasses.f impl_ErasePasses.f
    refine ⟨_, ?_, rfl⟩
    refine Ev.bind (validCells_ev x.f0) ?_
    by_cases ok : okCells x.f0 = true
    · rw [if_pos ok]
      refine Ev.if_pos ok ?_
      rw [l00In_eq]
      by_cases c : 1 ≤ lev ∧ lev ≤ 255
      · rw [if_pos c, decide_eq_true c]
        have := l0_loop lev c.1 x.f0 (by omega) (okCells_mem ok) x.f0.length 0 0 (by omega) (by omega) (by omega)
        rw [List.drop_zero, ← pass_hp lev c.1 255 x.f0 (okCells_mem ok)] at this
        refine Ev.step (fun k => ?_) this
        show spec_ErasePasses.j0 (k + 1) lev false x.f0 = _
        rw [spec_ErasePasses.j0, if_neg (by decide)]
        rfl
      · rw [if_neg c, decide_eq_false c]
        refine Ev.step (f := fun _ => some (-1)) (fun k => ?_) (Ev.now _)
        show spec_ErasePasses.j0 (k + 1) lev true x.f0 = _
        rw [spec_ErasePasses.j0, if_pos rfl]
    · rw [if_neg ok]
      refine Ev.if_neg ok (Ev.step (f := fun _ => some (-1)) (fun k => ?_) (Ev.now _))
      rw [spec_ErasePasses.j0, if_pos rfl]
  exact Ev.bind t (Ev.bind p (Ev.bind t (Ev.bind1 i (Ev.if_pos rfl (Ev.bind t (Ev.bind (eqCells_self x.f0 (by omega)) (Ev.if_pos rfl (Ev.now _))))))))
end Go.Proofs.Ytlafegjmmbkkpaa.Pure
