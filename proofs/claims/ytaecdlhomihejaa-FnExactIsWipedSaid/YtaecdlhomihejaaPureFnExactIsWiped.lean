/- The law FnExactIsWiped, as a statement over numbers and lists. No condition. -/
import Derived.Test.YtaecdlhomihejaaSayFnExactIsWiped
import Derived.Test.YtaecdlhomihejaaXIsWiped
import Derived.Test.YtaecdlhomihejaaFlashC
import Derived.Test.YtaecdlhomihejaaFlashS
namespace Go.Proofs.Ytaecdlhomihejaa.Pure
open Go.RowKit Go.Proofs.Ytaecdlhomihejaa.Q Go.Proofs.YtaecdlhomihejaaW.PrintWords
theorem swiped_loop (d b p : Int) (l : List S120) (u v : Int) (o : Bool) (z : Int) (a : Int) (h0 : 0 ≤ a) (h1 : a < (l.length : Int)) (xs : List ByteArray) (hx : (rd_T120 l a).f3 = xs) (hl : xs.length ≤ 9223372036854775806) (dd : Nat) : ∀ i : Nat, i ≤ xs.length → xs.length - i = dd →
    Ev (fun k => spec_IsWiped.l0 k a i d b p l u v o z) (!((xs.drop i).any fullB)) := by
  induction dd with
  | zero =>
    intro i h2 h3
    rw [List.drop_of_length_le (by omega)]
    refine Ev.step (f := fun _ => some true) (fun k => ?_) (Ev.now _)
    rw [spec_IsWiped.l0, if_pos h0, if_pos h1, hx, if_neg (by omega)]
  | succ dd ih =>
    intro i h2 h3
    have hi : i < xs.length := by omega
    rw [List.drop_eq_getElem_cons hi, List.any_cons]
    have ih1 := ih (i + 1) (by omega) (by omega)
    by_cases c : xs[i].toList = ([] : List UInt8)
    · rw [show fullB xs[i] = false from by unfold fullB; rw [decide_eq_true c]; rfl, Bool.false_or]
      refine Ev.step (fun k => ?_) ih1
      rw [spec_IsWiped.l0, if_pos h0, if_pos h1, hx, if_pos (by omega), if_pos (by omega), rdB_get xs i hi, if_pos c, wrap64_id (by omega) (by omega)]
      rfl
    · rw [show fullB xs[i] = true from by unfold fullB; rw [decide_eq_false c]; rfl, Bool.true_or]
      refine Ev.step (f := fun _ => some false) (fun k => ?_) (Ev.now _)
      rw [spec_IsWiped.l0, if_pos h0, if_pos h1, hx, if_pos (by omega), if_pos (by omega), rdB_get xs i hi, if_neg c]
theorem swiped_ev (d b p : Int) (l : List S120) (u v : Int) (o : Bool) (z : Int) (a : Int) (hs : ∀ x ∈ l, x.f3.length ≤ 9223372036854775806) (hl : l.length ≤ 9223372036854775806) :
    Ev (fun k => spec_IsWiped.f k d b p l u v o z a) (wipedB d b p l u v z a) := by
  have off : Ev (fun k => spec_IsWiped.j0 k a true d b p l u v o z) false := Ev.step (f := fun _ => some false) (fun k => by rw [spec_IsWiped.j0, if_pos rfl]) (Ev.now _)
  have hf := sflash_ev d b p l u v o z (fun x hx => by have := hs x hx; omega) hl
  unfold spec_IsWiped.f wipedB
  cases hv : flashB d b p l u v z with
  | false =>
    rw [hv] at hf
    exact Ev.bind hf (Ev.if_neg (by decide) off)
  | true =>
    rw [hv] at hf
    rw [Bool.true_and]
    refine Ev.bind hf (Ev.if_pos rfl ?_)
    have he : spec_l15Exists.f d b p l u v o z a = some (decide (0 ≤ a ∧ a ≤ (l.length : Int) - 1)) := by
      unfold spec_l15Exists.f
      rw [l00In_eq, wrap64_id (by omega) (by omega)]
      rfl
    rw [he]
    by_cases c : 0 ≤ a ∧ a ≤ (l.length : Int) - 1
    · rw [decide_eq_true c, Bool.true_and]
      refine Ev.bind1 rfl (Ev.if_pos rfl (Ev.if_pos c.1 (Ev.if_pos (by omega) ?_)))
      have hm : (rd_T120 l a).f3.length ≤ 9223372036854775806 := by
        unfold rd_T120
        have h2 : a.toNat < l.length := by omega
        rw [List.getD_eq_getElem?_getD, List.getElem?_eq_getElem h2]
        exact hs _ (List.getElem_mem _)
      by_cases c1 : (rd_T120 l a).f1 = 0
      · rw [decide_eq_true c1, Bool.true_and, show ((rd_T120 l a).f1 != 0) = false by simp [c1]]
        have := swiped_loop d b p l u v o z a c.1 (by omega) _ rfl hm _ 0 (by omega) rfl
        rw [List.drop_zero] at this
        refine Ev.step (fun k => ?_) this
        rw [spec_IsWiped.j0, if_neg (by decide)]
        rfl
      · rw [decide_eq_false c1, Bool.false_and, show ((rd_T120 l a).f1 != 0) = true by simp [c1]]
        exact off
    · rw [decide_eq_false c, Bool.false_and]
      exact Ev.bind1 rfl (Ev.if_neg (by decide) off)
theorem FnExactIsWiped : laws_FnExactIsWiped.Pure := by
  intro x a hx ha
  have hm : maxLen ≤ 9223372036854775807 := by decide
  obtain ⟨_, ⟨g0, g1, g2⟩, _⟩ : _ ∧ (x.f1.length ≤ maxLen ∧ x.f1.length * 48 ≤ 140737488351232 ∧ ∀ y ∈ x.f1, _) ∧ _ := hx
  have hs : ∀ y ∈ x.f1, okPg y := by
    intro y hy
    obtain ⟨_, _, _, h1, h2, h3⟩ : _ ∧ _ ∧ _ ∧ (y.f3.length ≤ maxLen ∧ y.f3.length * 16 ≤ 140737488351232 ∧ ∀ z ∈ y.f3, z.size ≤ 140737488351232) := g2 y hy
    exact ⟨by omega, h3⟩
  obtain ⟨r1, e1, _⟩ := szFlash_ev x.f0.f0 x.f0.f1 x.f0.f2 x.f1 x.f2 x.f3 x.f4 x.f5 hs (by omega) 1048576 (by omega) (by omega)
  unfold laws_FnExactIsWiped.f
  refine Ev.rounds (Ev.bind e1 ?_)
  by_cases h1 : r1 < 0
  · exact Ev.if_pos h1 (Ev.now _)
  refine Ev.if_neg h1 ?_
  have t1 := toFlash_ev x.f0.f0 x.f0.f1 x.f0.f2 x.f1 x.f2 x.f3 x.f4 x.f5 hs (by omega)
  have hb := toB_len x.f1 hs
  have hlen : (x.f1.map toB).length ≤ 9223372036854775806 := by rw [List.length_map]; omega
  have hb' : ∀ y ∈ x.f1.map toB, y.f3.length ≤ 9223372036854775806 := fun y hy => by have := hb y hy; omega
  have p := swiped_ev x.f0.f0 x.f0.f1 x.f0.f2 (x.f1.map toB) x.f2 x.f3 x.f4 x.f5 a hb' hlen
  exact Ev.bind t1 (Ev.bind p (Ev.bind t1 (Ev.bind1 rfl (Ev.if_neg (by simp) (Ev.bind t1 (Ev.bind (eqFlash_self x.f0.f0 x.f0.f1 x.f0.f2 (x.f1.map toB) x.f2 x.f3 x.f4 x.f5 hb' hlen) (Ev.if_pos rfl (Ev.now _))))))))
end Go.Proofs.Ytaecdlhomihejaa.Pure
