/- The page map's sizes, copies and comparisons, on both sides. Conditions: the lists are not longer than memory. -/
import Derived.Test.YtaecdlhomihejaaQ2
import Derived.Test.YtaecdlhomihejaaQ3
import Derived.Test.YtaecdlhomihejaaQ5
import Derived.Test.YtaecdlhomihejaaQ8
import Derived.Test.YtaecdlhomihejaaQ9
import Derived.Test.YtaecdlhomihejaaInt64C
import Derived.Test.YtaecdlhomihejaaBoolC
import Derived.Test.YtaecdlhomihejaaEqInt64S
import Derived.Test.YtaecdlhomihejaaEqBoolS
import Derived.Test.YtaecdlhomihejaaSameI
import Derived.Test.YtaecdlhomihejaaEqualI
namespace Go.Proofs.Ytaecdlhomihejaa.Q
open Go.RowKit Go.Proofs.YtaecdlhomihejaaW.PrintWords
set_option linter.unusedVariables false
theorem equalBool_loop (l m : List Bool) (hl : l.length = m.length) (hb : l.length ≤ 9223372036854775806) (d : Nat) : ∀ i : Nat, i ≤ l.length → l.length - i = d →
    Ev (fun k => slices_Equal_bool_bool.l0 k l m (l.length : Int) i) (decide (l.drop i = m.drop i)) := by
  induction d with
  | zero =>
    intro i h1 h2
    have e : decide (l.drop i = m.drop i) = true := by rw [List.drop_of_length_le (by omega), List.drop_of_length_le (by omega)]; rfl
    rw [e]
    refine Ev.step (f := fun _ => some true) (fun k => ?_) (Ev.now _)
    rw [slices_Equal_bool_bool.l0, if_neg (by omega)]
  | succ d ih =>
    intro i h1 h2
    have e1 : l.drop i = l[i] :: l.drop (i + 1) := List.drop_eq_getElem_cons (by omega)
    have e2 : m.drop i = m[i] :: m.drop (i + 1) := List.drop_eq_getElem_cons (by omega)
    by_cases h : l[i] = m[i]
    · have e : decide (l.drop i = m.drop i) = decide (l.drop (i + 1) = m.drop (i + 1)) := by
        rw [e1, e2, h]
        exact decide_eq_decide.2 ⟨fun q => (List.cons.inj q).2, fun q => by rw [q]⟩
      rw [e]
      refine Ev.step (fun k => ?_) (ih (i + 1) (by omega) (by omega))
      rw [slices_Equal_bool_bool.l0, if_pos (by omega), if_pos (by omega), if_pos (by omega), if_pos (by omega), rdOf_get _ l i (by omega), rdOf_get _ m i (by omega), if_neg (by simp [h]), wrap64_id (by omega) (by omega)]
      rfl
    · have e : decide (l.drop i = m.drop i) = false := decide_eq_false (by rw [e1, e2]; exact fun q => h (List.cons.inj q).1)
      rw [e]
      refine Ev.step (f := fun _ => some false) (fun k => ?_) (Ev.now _)
      rw [slices_Equal_bool_bool.l0, if_pos (by omega), if_pos (by omega), if_pos (by omega), if_pos (by omega), rdOf_get _ l i (by omega), rdOf_get _ m i (by omega), if_pos (by simpa using h)]
theorem equalBool_ev (l m : List Bool) (hb : l.length ≤ 9223372036854775806) : Ev (fun k => slices_Equal_bool_bool.f k l m) (decide (l = m)) := by
  unfold slices_Equal_bool_bool.f
  by_cases hl : l.length = m.length
  · have h := equalBool_loop l m hl hb l.length 0 (by omega) (by omega)
    simp only [List.drop_zero] at h
    exact Ev.if_pos (by omega) h
  · rw [decide_eq_false (fun q => hl (by rw [q]))]
    exact Ev.if_neg (by omega) (Ev.now _)
def sameMapB (a b : Int) (l : List Int) (t : List Bool) (a' b' : Int) (l' : List Int) (t' : List Bool) : Bool := decide (a = a') && (decide (b = b') && (decide (l = l') && decide (t = t')))
section
variable (a b : Int) (l : List Int) (t : List Bool) (a' b' : Int) (l' : List Int) (t' : List Bool)
theorem imap_ev (hl : l.length ≤ 9223372036854775806) (ht : t.length ≤ 9223372036854775806) : Ev (fun k => impl_SameMap.f k a b l t a' b' l' t') (sameMapB a b l t a' b' l' t') := by
  unfold impl_SameMap.f sameMapB
  by_cases h0 : a = a'
  · rw [decide_eq_true h0, Bool.true_and]
    refine Ev.if_pos h0 ?_
    by_cases h1 : b = b'
    · rw [decide_eq_true h1, Bool.true_and]
      refine Ev.if_pos h1 (Ev.bind (equalI_ev l l' hl) ?_)
      by_cases h2 : l = l'
      · rw [decide_eq_true h2, Bool.true_and]
        exact Ev.if_pos rfl (Ev.bind (equalBool_ev t t' ht) (Ev.now _))
      · rw [decide_eq_false h2, Bool.false_and]
        exact Ev.if_neg (by decide) (Ev.now _)
    · rw [decide_eq_false h1, Bool.false_and]
      exact Ev.if_neg h1 (Ev.now _)
  · rw [decide_eq_false h0, Bool.false_and]
    exact Ev.if_neg h0 (Ev.now _)
theorem smap_loop (hl : t.length = t'.length) (hb : t.length ≤ 9223372036854775806) (d : Nat) : ∀ i : Nat, i ≤ t.length → t.length - i = d →
    Ev (fun k => spec_SameMap.l0 k (i : Int) a b l t a' b' l' t') (decide (t.drop i = t'.drop i)) := by
  induction d with
  | zero =>
    intro i h1 h2
    have e : decide (t.drop i = t'.drop i) = true := by rw [List.drop_of_length_le (by omega), List.drop_of_length_le (by omega)]; rfl
    rw [e]
    refine Ev.step (f := fun _ => some true) (fun k => ?_) (Ev.now _)
    rw [spec_SameMap.l0, if_neg (by omega)]
  | succ d ih =>
    intro i h1 h2
    have e1 : t.drop i = t[i] :: t.drop (i + 1) := List.drop_eq_getElem_cons (by omega)
    have e2 : t'.drop i = t'[i] :: t'.drop (i + 1) := List.drop_eq_getElem_cons (by omega)
    by_cases h : t[i] = t'[i]
    · have e : decide (t.drop i = t'.drop i) = decide (t.drop (i + 1) = t'.drop (i + 1)) := by
        rw [e1, e2, h]
        exact decide_eq_decide.2 ⟨fun q => (List.cons.inj q).2, fun q => by rw [q]⟩
      rw [e]
      refine Ev.step (fun k => ?_) (ih (i + 1) (by omega) (by omega))
      rw [spec_SameMap.l0, if_pos (by omega), if_pos (by omega), if_pos (by omega), rdOf_get _ t i (by omega), rdOf_get _ t' i (by omega), if_neg (by simp [h]), wrap64_id (by omega) (by omega)]
      rfl
    · have e : decide (t.drop i = t'.drop i) = false := decide_eq_false (by rw [e1, e2]; exact fun q => h (List.cons.inj q).1)
      rw [e]
      refine Ev.step (f := fun _ => some false) (fun k => ?_) (Ev.now _)
      rw [spec_SameMap.l0, if_pos (by omega), if_pos (by omega), if_pos (by omega), rdOf_get _ t i (by omega), rdOf_get _ t' i (by omega), if_pos (by simpa using h)]
theorem smap_ev (hl : l.length ≤ 9223372036854775806) (ht : t.length ≤ 9223372036854775806) : Ev (fun k => spec_SameMap.f k a b l t a' b' l' t') (sameMapB a b l t a' b' l' t') := by
  have off : Ev (fun k => spec_SameMap.j0 k true a b l t a' b' l' t') false := Ev.step (f := fun _ => some false) (fun k => by rw [spec_SameMap.j0, if_pos rfl]) (Ev.now _)
  unfold spec_SameMap.f sameMapB
  by_cases h0 : a = a'
  · rw [decide_eq_true h0, Bool.true_and]
    refine Ev.if_pos h0 ?_
    by_cases h1 : b = b'
    · rw [decide_eq_true h1, Bool.true_and]
      refine Ev.if_pos h1 (Ev.bind (same_ev l l' hl) ?_)
      by_cases h2 : l = l'
      · rw [decide_eq_true h2, Bool.true_and]
        refine Ev.if_pos rfl ?_
        by_cases hn : t.length = t'.length
        · rw [show ((t.length : Int) != (t'.length : Int)) = false from by simp [hn]]
          have hp := smap_loop a b l t a' b' l' t' hn ht t.length 0 (by omega) (by omega)
          simp only [List.drop_zero] at hp
          exact Ev.step (fun k => by rw [spec_SameMap.j0, if_neg (by decide)]; rfl) hp
        · rw [show ((t.length : Int) != (t'.length : Int)) = true from by simp; omega, decide_eq_false (fun q => hn (by rw [q]))]
          exact off
      · rw [decide_eq_false h2, Bool.false_and]
        exact Ev.if_neg (by decide) off
    · rw [decide_eq_false h1, Bool.false_and]
      exact Ev.if_neg h1 off
  · rw [decide_eq_false h0, Bool.false_and]
    exact Ev.if_neg h0 off
theorem toMap_ev (hl : l.length ≤ 35184372088832) (ht : t.length ≤ 281474976710656) : Ev (fun k => laws_toPageMap.f k a b l t) (a, b, l, t) :=
  Ev.bind (toInt64S_ev l hl) (Ev.bind (toBoolS_ev t ht) (Ev.now _))
theorem eqMap_self (hl : l.length ≤ 9223372036854775806) (ht : t.length ≤ 9223372036854775806) : Ev (fun k => laws_eqPageMap.f k a b l t a b l t) true := by
  have h1 := eqInt64S_ev l l hl
  have h2 := eqBoolS_ev t t ht
  rw [decide_eq_true rfl] at h1 h2
  exact Ev.if_pos rfl (Ev.if_pos rfl (Ev.bind h1 (Ev.if_pos rfl (Ev.bind h2 (Ev.if_pos rfl (Ev.now _))))))
end
end Go.Proofs.Ytaecdlhomihejaa.Q
