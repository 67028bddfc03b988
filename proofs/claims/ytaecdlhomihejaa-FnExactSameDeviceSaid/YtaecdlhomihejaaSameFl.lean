/- The specification's SameFlash is the program's. Conditions: the lists are not longer than memory. -/
import Derived.Test.YtaecdlhomihejaaXSameFlash
import Derived.Test.YtaecdlhomihejaaQ6
namespace Go.Proofs.Ytaecdlhomihejaa.Q
open Go.RowKit Go.Proofs.YtaecdlhomihejaaW.PrintWords
set_option linter.unusedVariables false
theorem rdIBs_get (l : List S120) (i : Nat) (h : i < l.length) : rd_T120 l (i : Int) = l[i] := by simp [rd_T120, h]
theorem sameBlk_loop (x y : S120) (hl : x.f3.length = y.f3.length) (hb : x.f3.length ≤ 9223372036854775806) (d : Nat) : ∀ i : Nat, i ≤ x.f3.length → x.f3.length - i = d →
    Ev (fun k => spec_l06SameBlock.l0 k (i : Int) x.f0 x.f1 x.f2 x.f3 y.f0 y.f1 y.f2 y.f3) (decide (x.f3.drop i = y.f3.drop i)) := by
  induction d with
  | zero =>
    intro i h1 h2
    have e : decide (x.f3.drop i = y.f3.drop i) = true := by rw [List.drop_of_length_le (by omega), List.drop_of_length_le (by omega)]; rfl
    rw [e]
    refine Ev.step (f := fun _ => some true) (fun k => ?_) (Ev.now _)
    rw [spec_l06SameBlock.l0, if_neg (by omega)]
  | succ d ih =>
    intro i h1 h2
    have e1 : x.f3.drop i = x.f3[i] :: x.f3.drop (i + 1) := List.drop_eq_getElem_cons (by omega)
    have e2 : y.f3.drop i = y.f3[i] :: y.f3.drop (i + 1) := List.drop_eq_getElem_cons (by omega)
    by_cases h : x.f3[i] = y.f3[i]
    · have e : decide (x.f3.drop i = y.f3.drop i) = decide (x.f3.drop (i + 1) = y.f3.drop (i + 1)) := by
        rw [e1, e2, h]
        exact decide_eq_decide.2 ⟨fun q => (List.cons.inj q).2, fun q => by rw [q]⟩
      rw [e]
      refine Ev.step (fun k => ?_) (ih (i + 1) (by omega) (by omega))
      rw [spec_l06SameBlock.l0, if_pos (by omega), if_pos (by omega), if_pos (by omega), rdOf_get _ x.f3 i (by omega), rdOf_get _ y.f3 i (by omega), if_pos ((str_eq _ _).2 h), wrap64_id (by omega) (by omega)]
      rfl
    · have e : decide (x.f3.drop i = y.f3.drop i) = false := decide_eq_false (by rw [e1, e2]; exact fun q => h (List.cons.inj q).1)
      rw [e]
      refine Ev.step (f := fun _ => some false) (fun k => ?_) (Ev.now _)
      rw [spec_l06SameBlock.l0, if_pos (by omega), if_pos (by omega), if_pos (by omega), rdOf_get _ x.f3 i (by omega), rdOf_get _ y.f3 i (by omega), if_neg (fun q => h ((str_eq _ _).1 q))]
theorem sameBlk_ev (x y : S120) (hb : x.f3.length ≤ 9223372036854775806) : Ev (fun k => spec_l06SameBlock.f k x.f0 x.f1 x.f2 x.f3 y.f0 y.f1 y.f2 y.f3) (sameB x y) := by
  have off : Ev (fun k => spec_l06SameBlock.j0 k true x.f0 x.f1 x.f2 x.f3 y.f0 y.f1 y.f2 y.f3) false := Ev.step (f := fun _ => some false) (fun k => by rw [spec_l06SameBlock.j0, if_pos rfl]) (Ev.now _)
  unfold spec_l06SameBlock.f sameB
  by_cases h0 : x.f0 = y.f0
  · rw [decide_eq_true h0, Bool.true_and]
    refine Ev.if_pos h0 ?_
    by_cases h1 : x.f1 = y.f1
    · rw [decide_eq_true h1, Bool.true_and]
      refine Ev.if_pos h1 ?_
      by_cases h2 : (x.f2 != y.f2) = true
      · rw [show (x.f2 == y.f2 && decide (x.f3 = y.f3)) = false from by rw [bne] at h2; rw [show (x.f2 == y.f2) = false from by simpa using h2, Bool.false_and]]
        exact Ev.if_pos h2 off
      · rw [show (x.f2 == y.f2 && decide (x.f3 = y.f3)) = decide (x.f3 = y.f3) from by rw [show (x.f2 == y.f2) = true from by simpa [bne] using h2, Bool.true_and]]
        refine Ev.if_neg h2 ?_
        by_cases hl : x.f3.length = y.f3.length
        · have e : ((x.f3.length : Int) != (y.f3.length : Int)) = false := by simp [hl]
          rw [e]
          have hp := sameBlk_loop x y hl hb x.f3.length 0 (by omega) (by omega)
          simp only [List.drop_zero] at hp
          exact Ev.step (fun k => by rw [spec_l06SameBlock.j0, if_neg (by decide)]; rfl) hp
        · have e : ((x.f3.length : Int) != (y.f3.length : Int)) = true := by simp; omega
          rw [e, decide_eq_false (fun q => hl (by rw [q]))]
          exact off
    · rw [decide_eq_false h1, Bool.false_and]
      exact Ev.if_neg h1 off
  · rw [decide_eq_false h0, Bool.false_and]
    exact Ev.if_neg h0 off
section
variable (a b c : Int) (l : List S120) (u v : Int) (o : Bool) (z : Int) (a' b' c' : Int) (m : List S120) (u' v' : Int) (o' : Bool) (z' : Int)
theorem sameFl_loop (hs : ∀ x ∈ l, x.f3.length ≤ 9223372036854775806) (hl : l.length = m.length) (hb : l.length ≤ 9223372036854775806) (d : Nat) : ∀ i : Nat, i ≤ l.length → l.length - i = d →
    Ev (fun k => spec_SameFlash.l0 k (i : Int) a b c l u v o z a' b' c' m u' v' o' z') (eqAll sameB (l.drop i) (m.drop i)) := by
  induction d with
  | zero =>
    intro i h1 h2
    rw [List.drop_of_length_le (by omega), List.drop_of_length_le (by omega)]
    refine Ev.step (f := fun _ => some true) (fun k => ?_) (Ev.now _)
    rw [spec_SameFlash.l0, if_neg (by omega)]
  | succ d ih =>
    intro i h1 h2
    rw [eqAll_drop sameB l m i (by omega) (by omega)]
    have hi := ih (i + 1) (by omega) (by omega)
    have hx := sameBlk_ev l[i] m[i] (hs _ (List.getElem_mem _))
    have e1 : wrap64 ((i : Int) + 1) = ((i + 1 : Nat) : Int) := by unfold wrap64; omega
    refine Ev.step (f := fun k => (spec_l06SameBlock.f k l[i].f0 l[i].f1 l[i].f2 l[i].f3 m[i].f0 m[i].f1 m[i].f2 m[i].f3).bind fun t249 => (if t249 = true then (spec_SameFlash.l0 k ((i + 1 : Nat) : Int) a b c l u v o z a' b' c' m u' v' o' z') else (some false))) (fun k => ?_) ?_
    · rw [spec_SameFlash.l0, if_pos (by omega), if_pos (by omega), if_pos (by omega), rdIBs_get l i (by omega), rdIBs_get m i (by omega), e1]
    · cases hq : sameB l[i] m[i] with
      | true => rw [hq] at hx; rw [Bool.true_and]; exact Ev.bind hx (Ev.if_pos rfl hi)
      | false => rw [hq] at hx; rw [Bool.false_and]; exact Ev.bind hx (Ev.if_neg (by decide) (Ev.now _))
theorem sameFl_ev (hs : ∀ x ∈ l, x.f3.length ≤ 9223372036854775806) (hb : l.length ≤ 9223372036854775806) : Ev (fun k => spec_SameFlash.f k a b c l u v o z a' b' c' m u' v' o' z') (sameFl a b c l u v o z a' b' c' m u' v' o' z') := by
  have off : Ev (fun k => spec_SameFlash.j0 k true a b c l u v o z a' b' c' m u' v' o' z') false := Ev.step (f := fun _ => some false) (fun k => by rw [spec_SameFlash.j0, if_pos rfl]) (Ev.now _)
  unfold spec_SameFlash.f sameFl
  by_cases hg : a = a' ∧ b = b' ∧ c = c'
  · rw [decide_eq_true hg, Bool.true_and]
    obtain ⟨rfl, rfl, rfl⟩ := hg
    refine Ev.if_neg (by simp) ?_
    by_cases hl : l.length = m.length
    · refine Ev.if_pos (by omega) ?_
      have hp := sameFl_loop a b c l u v o z a b c m u' v' o' z' hs hl hb l.length 0 (by omega) (by omega)
      simp only [List.drop_zero] at hp
      by_cases h4 : u = u'
      · refine Ev.if_pos h4 ?_
        by_cases h5 : v = v'
        · refine Ev.if_pos h5 ?_
          by_cases h6 : (o != o') = true
          · have : o ≠ o' := by simpa using h6
            rw [decide_eq_false this]
            simp only [Bool.false_and, Bool.and_false]
            exact Ev.if_pos h6 off
          · have ho : o = o' := by simpa using h6
            refine Ev.if_neg h6 ?_
            by_cases h7 : z = z'
            · rw [show (z != z') = false from by simp [h7], decide_eq_true h4, decide_eq_true h5, decide_eq_true ho, decide_eq_true h7]
              simp only [Bool.and_true]
              exact Ev.step (fun k => by rw [spec_SameFlash.j0, if_neg (by decide)]; rfl) hp
            · rw [show (z != z') = true from by simpa using h7, decide_eq_false h7]
              simp only [Bool.and_false]
              exact off
        · rw [decide_eq_false h5]
          simp only [Bool.false_and, Bool.and_false]
          exact Ev.if_neg h5 off
      · rw [decide_eq_false h4]
        simp only [Bool.false_and, Bool.and_false]
        exact Ev.if_neg h4 off
    · rw [eqAll_len hl, Bool.false_and]
      exact Ev.if_neg (by omega) off
  · rw [decide_eq_false hg, Bool.false_and]
    refine Ev.if_pos ?_ off
    by_cases h0 : a = a'
    · by_cases h1 : b = b'
      · have h2 : c ≠ c' := fun h => hg ⟨h0, h1, h⟩
        simp [h2]
      · simp [h1]
    · simp [h0]
end
end Go.Proofs.Ytaecdlhomihejaa.Q
