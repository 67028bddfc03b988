/- The law FnExactValidWear, as a statement over numbers and lists. No condition. -/
import Derived.Test.YtcdkkdlaalbgiaaSayFnExactValidWear
import Derived.Test.YtcdkkdlaalbgiaaInOk
import Derived.Test.YtcdkkdlaalbgiaaInt64C
import Derived.Test.YtcdkkdlaalbgiaaBoolC
import Derived.Test.YtcdkkdlaalbgiaaEqInt64S
import Derived.Test.YtcdkkdlaalbgiaaEqBoolS
namespace Go.Proofs.Ytcdkkdlaalbgiaa.Pure
open Go.RowKit Go.Proofs.Ytcdkkdlaalbgiaa.Q Go.Proofs.YtcdkkdlaalbgiaaW.PrintWords
/-- Counts within 0..1000, states within 0..2, a bad one in state 0, from place i. -/
def wears (a : List Int) (b : List Bool) (c : List Int) : Nat → Nat → Bool
  | 0, _ => true
  | d + 1, i => decide (0 ≤ a[i]! ∧ a[i]! ≤ 1000) && (decide (0 ≤ c[i]! ∧ c[i]! ≤ 2) && ((!b[i]! || decide (c[i]! = 0)) && wears a b c d (i + 1)))
theorem spec_loop (a : List Int) (b : List Bool) (c : List Int) (w n : Int) (hn : n = a.length) (hb : (b.length : Int) = n) (hc : (c.length : Int) = n) (hl : n < 9223372036854775807) (d : Nat) : ∀ i : Nat, i ≤ a.length → a.length - i = d →
    Ev (fun k => spec_ValidWear.l0 k n i a b c w) (wears a b c d i) := by
  induction d with
  | zero =>
    intro i h1 h2
    refine Ev.step (f := fun _ => some true) (fun k => ?_) (Ev.now _)
    rw [spec_ValidWear.l0, if_neg (by omega)]
  | succ d ih =>
    intro i h1 h2
    have ha : i < a.length := by omega
    have hb2 : i < b.length := by omega
    have hc2 : i < c.length := by omega
    have hi := ih (i + 1) (by omega) (by omega)
    have ea := rd_get a i ha
    have eb := rdOf_get false b i hb2
    have ec := rd_get c i hc2
    unfold wears
    rw [getElem!_pos a i ha, getElem!_pos b i hb2, getElem!_pos c i hc2]
    revert ea eb ec
    generalize a[i]'ha = x
    generalize b[i]'hb2 = y
    generalize c[i]'hc2 = z
    intro ea eb ec
    refine Ev.step (f := fun k => if decide (0 ≤ x ∧ x ≤ 1000) = true then (if decide (0 ≤ z ∧ z ≤ 2) = true then (if y = true then (if z = 0 then spec_ValidWear.l0 k n ((i + 1 : Nat) : Int) a b c w else some false) else spec_ValidWear.l0 k n ((i + 1 : Nat) : Int) a b c w) else some false) else some false) (fun k => ?_) ?_
    · rw [spec_ValidWear.l0, if_pos (by omega), if_pos (by omega), if_pos (by omega), ea, eb, ec, l00In_eq, l00In_eq, wrap64_id (by omega) (by omega), if_pos (show (i : Int) < c.length by omega), if_pos (show (i : Int) < b.length by omega)]
      rfl
    · by_cases c1 : 0 ≤ x ∧ x ≤ 1000
      · rw [decide_eq_true c1, Bool.true_and]
        refine Ev.if_pos rfl ?_
        by_cases c2 : 0 ≤ z ∧ z ≤ 2
        · rw [decide_eq_true c2, Bool.true_and]
          refine Ev.if_pos rfl ?_
          cases y with
          | false => exact Ev.if_neg (by decide) hi
          | true =>
            refine Ev.if_pos rfl ?_
            by_cases c3 : z = 0
            · rw [decide_eq_true c3, Bool.or_true, Bool.true_and]
              exact Ev.if_pos c3 hi
            · rw [decide_eq_false c3]
              exact Ev.if_neg c3 (Ev.now _)
        · rw [decide_eq_false c2]
          exact Ev.if_neg (by decide) (Ev.now _)
      · rw [decide_eq_false c1]
        exact Ev.if_neg (by decide) (Ev.now _)
theorem impl_loop (a : List Int) (b : List Bool) (c : List Int) (w : Int) (hb : b.length = a.length) (hc : c.length = a.length) (hl : (a.length : Int) < 9223372036854775807) (d : Nat) : ∀ i : Nat, i ≤ a.length → a.length - i = d →
    Ev (fun k => impl_ValidWear.l0 k c (c.length : Int) i a b c w) (wears a b c d i) := by
  induction d with
  | zero =>
    intro i h1 h2
    refine Ev.step (f := fun _ => some true) (fun k => ?_) (Ev.now _)
    rw [impl_ValidWear.l0, if_neg (by omega)]
  | succ d ih =>
    intro i h1 h2
    have ha : i < a.length := by omega
    have hb2 : i < b.length := by omega
    have hc2 : i < c.length := by omega
    have hi := ih (i + 1) (by omega) (by omega)
    have ea := rd_get a i ha
    have eb := rdOf_get false b i hb2
    have ec := rd_get c i hc2
    unfold wears
    rw [getElem!_pos a i ha, getElem!_pos b i hb2, getElem!_pos c i hc2]
    revert ea eb ec
    generalize a[i]'ha = x
    generalize b[i]'hb2 = y
    generalize c[i]'hc2 = z
    intro ea eb ec
    refine Ev.step (f := fun k => if decide (0 ≤ x ∧ x ≤ 1000) = true then (if decide (0 ≤ z ∧ z ≤ 2) = true then (if y = true then (if z = 0 then impl_ValidWear.l0 k c (c.length : Int) ((i + 1 : Nat) : Int) a b c w else some false) else impl_ValidWear.l0 k c (c.length : Int) ((i + 1 : Nat) : Int) a b c w) else some false) else some false) (fun k => ?_) ?_
    · rw [impl_ValidWear.l0, if_pos (by omega), if_pos (by omega), if_pos (by omega), if_pos (by omega), ea, eb, ec, within_eq, within_eq, wrap64_id (by omega) (by omega), if_pos (show (i : Int) < b.length by omega)]
      rfl
    · by_cases c1 : 0 ≤ x ∧ x ≤ 1000
      · rw [decide_eq_true c1, Bool.true_and]
        refine Ev.if_pos rfl ?_
        by_cases c2 : 0 ≤ z ∧ z ≤ 2
        · rw [decide_eq_true c2, Bool.true_and]
          refine Ev.if_pos rfl ?_
          cases y with
          | false => exact Ev.if_neg (by decide) hi
          | true =>
            refine Ev.if_pos rfl ?_
            by_cases c3 : z = 0
            · rw [decide_eq_true c3, Bool.or_true, Bool.true_and]
              exact Ev.if_pos c3 hi
            · rw [decide_eq_false c3]
              exact Ev.if_neg c3 (Ev.now _)
        · rw [decide_eq_false c2]
          exact Ev.if_neg (by decide) (Ev.now _)
      · rw [decide_eq_false c1]
        exact Ev.if_neg (by decide) (Ev.now _)
theorem spec_off (k : Nat) (n w : Int) (a : List Int) (b : List Bool) (c : List Int) : spec_ValidWear.j0 (k + 1) n true a b c w = some false := by rw [spec_ValidWear.j0, if_pos rfl]
theorem impl_off (k : Nat) (w : Int) (a : List Int) (b : List Bool) (c : List Int) : impl_ValidWear.j0 (k + 1) true a b c w = some false := by rw [impl_ValidWear.j0, if_pos rfl]
theorem wear_same (a : List Int) (b : List Bool) (c : List Int) (w : Int) (hl : (a.length : Int) < 9223372036854775807) :
    ∃ v, Ev (fun k => spec_ValidWear.f k a b c w) v ∧ Ev (fun k => impl_ValidWear.f k a b c w) v := by
  unfold spec_ValidWear.f impl_ValidWear.f
  simp only [l00In_eq, within_eq, Option.bind_some]
  by_cases c1 : 1 ≤ (a.length : Int) ∧ (a.length : Int) ≤ 36
  · by_cases c2 : (b.length : Int) = a.length
    · by_cases c3 : (c.length : Int) = a.length
      · by_cases c4 : 1 ≤ w ∧ w ≤ 100
        · refine ⟨wears a b c a.length 0, ?_, ?_⟩
          · refine Ev.if_neg (by omega) (Ev.if_neg (by omega) (Ev.if_pos c2 (Ev.if_pos c3 ?_)))
            refine Ev.step (fun k => ?_) (spec_loop a b c w a.length rfl (by omega) (by omega) (by omega) a.length 0 (by omega) (by omega))
            rw [spec_ValidWear.j0, decide_eq_true c4]
            rfl
          · refine Ev.if_pos (by rw [decide_eq_true c1]) (Ev.if_pos c2 (Ev.if_pos c3 ?_))
            refine Ev.step (fun k => ?_) (impl_loop a b c w (by omega) (by omega) (by omega) a.length 0 (by omega) (by omega))
            rw [impl_ValidWear.j0, decide_eq_true c4]
            rfl
        · refine ⟨false, ?_, ?_⟩
          · refine Ev.if_neg (by omega) (Ev.if_neg (by omega) (Ev.if_pos c2 (Ev.if_pos c3 ?_)))
            rw [decide_eq_false c4]
            exact Ev.step (fun k => spec_off k _ _ _ _ _) (Ev.now _)
          · refine Ev.if_pos (by rw [decide_eq_true c1]) (Ev.if_pos c2 (Ev.if_pos c3 ?_))
            rw [decide_eq_false c4]
            exact Ev.step (fun k => impl_off k _ _ _ _) (Ev.now _)
      · refine ⟨false, ?_, ?_⟩
        · exact Ev.if_neg (by omega) (Ev.if_neg (by omega) (Ev.if_pos c2 (Ev.if_neg c3 (Ev.step (fun k => spec_off k _ _ _ _ _) (Ev.now _)))))
        · exact Ev.if_pos (by rw [decide_eq_true c1]) (Ev.if_pos c2 (Ev.if_neg c3 (Ev.step (fun k => impl_off k _ _ _ _) (Ev.now _))))
    · refine ⟨false, ?_, ?_⟩
      · exact Ev.if_neg (by omega) (Ev.if_neg (by omega) (Ev.if_neg c2 (Ev.step (fun k => spec_off k _ _ _ _ _) (Ev.now _))))
      · exact Ev.if_pos (by rw [decide_eq_true c1]) (Ev.if_neg c2 (Ev.step (fun k => impl_off k _ _ _ _) (Ev.now _)))
  · refine ⟨false, ?_, ?_⟩
    · by_cases c5 : (a.length : Int) < 1
      · exact Ev.if_pos c5 (Ev.step (fun k => spec_off k _ _ _ _ _) (Ev.now _))
      · exact Ev.if_neg c5 (Ev.if_pos (by omega) (Ev.step (fun k => spec_off k _ _ _ _ _) (Ev.now _)))
    · exact Ev.if_neg (by rw [decide_eq_false c1]; decide) (Ev.step (fun k => impl_off k _ _ _ _) (Ev.now _))
theorem toWear_ev (a : List Int) (b : List Bool) (c : List Int) (w : Int) (h1 : a.length ≤ 35184372088832) (h2 : b.length ≤ 35184372088832) (h3 : c.length ≤ 35184372088832) : Ev (fun k => laws_toWear.f k a b c w) (a, b, c, w) := by
  unfold laws_toWear.f
  exact Ev.bind (toInt64S_ev a h1) (Ev.bind (toBoolS_ev b (by omega)) (Ev.bind (toInt64S_ev c h3) (Ev.now _)))
theorem eqWear_ev (a : List Int) (b : List Bool) (c : List Int) (w : Int) (h1 : a.length ≤ 35184372088832) (h2 : b.length ≤ 35184372088832) (h3 : c.length ≤ 35184372088832) : Ev (fun k => laws_eqWear.f k a b c w a b c w) true := by
  unfold laws_eqWear.f
  refine Ev.bind (eqInt64S_ev a a (by omega)) (Ev.if_pos (by simp) ?_)
  refine Ev.bind (eqBoolS_ev b b (by omega)) (Ev.if_pos (by simp) ?_)
  refine Ev.bind (eqInt64S_ev c c (by omega)) (Ev.if_pos (by simp) ?_)
  exact Ev.if_pos rfl (Ev.now _)
theorem szWear_some (a : List Int) (b : List Bool) (c : List Int) (w n : Int) (h1 : a.length ≤ 9223372036854775807) (h2 : b.length ≤ 9223372036854775807) (h3 : c.length ≤ 9223372036854775807) (h4 : 0 ≤ n) (h5 : n ≤ 1048576) :
    ∃ r, laws_szWear.f a b c w n = some r ∧ (0 ≤ r → (a.length : Int) ≤ n ∧ (b.length : Int) ≤ n ∧ (c.length : Int) ≤ n) := by
  unfold laws_szWear.f
  obtain ⟨r1, e1, _, p1, q1⟩ := szInt64S_some a n h1 (by omega) h5
  rw [e1, Option.bind_some]
  by_cases n1 : r1 < 0
  · rw [if_pos n1]; exact ⟨_, rfl, by omega⟩
  rw [if_neg n1]
  obtain ⟨r2, e2, _, p2, q2⟩ := szBoolS_some b r1 h2 (by omega) (by omega)
  rw [e2, Option.bind_some]
  by_cases n2 : r2 < 0
  · rw [if_pos n2]; exact ⟨_, rfl, by omega⟩
  rw [if_neg n2]
  obtain ⟨r3, e3, _, p3, q3⟩ := szInt64S_some c r2 h3 (by omega) (by omega)
  rw [e3, Option.bind_some]
  by_cases n3 : r3 < 0
  · rw [if_pos n3]; exact ⟨_, rfl, by omega⟩
  rw [if_neg n3]
  exact ⟨_, rfl, fun _ => by have := q1 (by omega); have := q2 (by omega); have := q3 (by omega); omega⟩
theorem FnExactValidWear : laws_FnExactValidWear.Pure := by
  intro x hg
  have hm : maxLen ≤ 9223372036854775807 := by decide
  obtain ⟨⟨g0, _⟩, ⟨g1, _⟩, ⟨g2, _⟩, g3⟩ : (x.f0.length ≤ maxLen ∧ _) ∧ (x.f1.length ≤ maxLen ∧ _) ∧ (x.f2.length ≤ maxLen ∧ _) ∧ (Lit.int .i64 x.f3).wf = true := hg
  obtain ⟨r, e, q⟩ := szWear_some x.f0 x.f1 x.f2 x.f3 1048576 (by omega) (by omega) (by omega) (by omega) (by omega)
  unfold laws_FnExactValidWear.f
  refine Ev.rounds ?_
  refine Ev.bind1 e ?_
  by_cases h : r < 0
  · exact Ev.if_pos h (Ev.now _)
  refine Ev.if_neg h ?_
  obtain ⟨b0, b1, b2⟩ := q (by omega)
  obtain ⟨v, p1, p2⟩ := wear_same x.f0 x.f1 x.f2 x.f3 (by omega)
  have t := toWear_ev x.f0 x.f1 x.f2 x.f3 (by omega) (by omega) (by omega)
  refine Ev.bind t (Ev.bind p1 (Ev.bind t (Ev.bind p2 (Ev.if_neg (by simp) (Ev.bind t (Ev.bind (eqWear_ev x.f0 x.f1 x.f2 x.f3 (by omega) (by omega) (by omega)) (Ev.if_pos rfl (Ev.now _))))))))
end Go.Proofs.Ytcdkkdlaalbgiaa.Pure
