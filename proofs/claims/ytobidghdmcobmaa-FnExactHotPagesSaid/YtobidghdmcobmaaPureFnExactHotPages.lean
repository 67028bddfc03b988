/- The law FnExactHotPages, as a statement over numbers and lists. No condition. -/
import Derived.Test.YtobidghdmcobmaaSayFnExactHotPages
import Derived.Test.YtobidghdmcobmaaQ5
import Derived.Test.YtobidghdmcobmaaQ5
import Derived.Test.YtobidghdmcobmaaXHotPages
import Derived.Test.YtobidghdmcobmaaHeatC
import Derived.Test.YtobidghdmcobmaaInt64S
namespace Go.Proofs.Ytobidghdmcobmaa.Pure
open Go.RowKit Go.Proofs.Ytobidghdmcobmaa.Q Go.Proofs.YtobidghdmcobmaaW.PrintWords
theorem hotFrom_length (l : List Int) : ∀ d i, (hotFrom l d i).length ≤ d
  | 0, i => by simp [hotFrom]
  | d + 1, i => by
    have := hotFrom_length l d (i + 1)
    unfold hotFrom
    split
    · rw [List.length_cons]; omega
    · omega
theorem impl_loop (l : List Int) (x : Int) (hl : (l.length : Int) ≤ 1000000000) (d : Nat) : ∀ (i : Nat) (acc : List Int), i ≤ l.length → l.length - i = d → acc.length ≤ i →
    Ev (fun k => impl_HotPages.l0 k acc (l.length : Int) i l x) (acc ++ hotFrom l d i) := by
  induction d with
  | zero =>
    intro i acc h1 h2 h3
    refine Ev.step (f := fun _ => some acc) (fun k => ?_) (by rw [hotFrom, List.append_nil]; exact Ev.now _)
    rw [impl_HotPages.l0, if_neg (by omega)]
  | succ d ih =>
    intro i acc h1 h2 h3
    have ei : wrap64 ((i : Int) + 1) = ((i + 1 : Nat) : Int) := by unfold wrap64; omega
    have hev := implHot_ev l x i (by omega) (by omega)
    refine Ev.step (f := fun k => (impl_Heat_hot.f k l x i).bind fun t => if t = true then (if acc.length < 17592186044416 then (impl_HotPages.l0 k (acc ++ [(i : Int)]) (l.length : Int) ((i + 1 : Nat) : Int) l x) else none) else (impl_HotPages.l0 k acc (l.length : Int) ((i + 1 : Nat) : Int) l x)) (fun k => ?_) (Ev.bind hev ?_)
    · rw [impl_HotPages.l0, if_pos (by omega), ei]
    · unfold hotFrom
      by_cases c : hotB l i = true
      · rw [if_pos c]
        have := ih (i + 1) (acc ++ [(i : Int)]) (by omega) (by omega) (by simp; omega)
        rw [List.append_assoc] at this
        exact Ev.if_pos c (Ev.if_pos (by omega) this)
      · rw [if_neg c]
        exact Ev.if_neg c (ih (i + 1) acc (by omega) (by omega) (by omega))
theorem impl_ev (l : List Int) (x : Int) (hl : (l.length : Int) ≤ 1000000000) : Ev (fun k => impl_HotPages.f k l x) (if okHeat l x = true then hotFrom l l.length 0 else []) := by
  unfold impl_HotPages.f
  refine Ev.bind1 (implHeat_eq l x) ?_
  by_cases c : okHeat l x = true
  · rw [if_pos c]
    exact Ev.if_pos c (impl_loop l x hl l.length 0 [] (by omega) (by omega) (by simp))
  · rw [if_neg c]
    exact Ev.if_neg c (Ev.now _)
theorem eq_self (l : List Int) (h : l.length ≤ 9223372036854775806) : Ev (fun k => laws_eqInt64S.f k l l) true := by
  have := eqInt64S_ev l l h
  rw [decide_eq_true rfl] at this
  exact this
theorem FnExactHotPages : laws_FnExactHotPages.Pure := by
  intro x hx
  have hm : maxLen ≤ 9223372036854775807 := by decide
  obtain ⟨⟨g0, _⟩, _⟩ : (x.f0.length ≤ maxLen ∧ _) ∧ _ := hx
  obtain ⟨r1, e1, _, q1⟩ := szHeat_some x.f0 x.f1 1048576 (by omega) (by omega) (by omega)
  unfold laws_FnExactHotPages.f
  refine Ev.rounds ?_
  refine Ev.bind1 e1 ?_
  by_cases h1 : r1 < 0
  · exact Ev.if_pos h1 (Ev.now _)
  refine Ev.if_neg h1 ?_
  have b1 := q1 (by omega)
  have t1 := toHeat_ev x.f0 x.f1 (by omega)
  have p : spec_HotPages.f x.f0 x.f1 = some (if okHeat x.f0 x.f1 = true then hotFrom x.f0 x.f0.length 0 else []) := by
    unfold spec_HotPages.f
    rw [if_pos (by omega)]
  have i := impl_ev x.f0 x.f1 (by omega)
  have hv : (if okHeat x.f0 x.f1 = true then hotFrom x.f0 x.f0.length 0 else []).length ≤ x.f0.length := by
    split
    · exact hotFrom_length _ _ _
    · simp
  generalize (if okHeat x.f0 x.f1 = true then hotFrom x.f0 x.f0.length 0 else []) = v at p i hv
  have mk : Ev (fun k => laws_markHeat.f k x.f0 x.f1 1) (1 + (x.f0.length : Int), marked 1 x.f0.length) := by
    unfold laws_markHeat.f
    exact Ev.bind (markInt64S_ev x.f0 1 (by omega) (by omega)) (Ev.now _)
  refine Ev.bind t1 (Ev.bind1 p (Ev.bind t1 (Ev.bind i (Ev.bind (eq_self v (by omega)) (Ev.if_pos rfl ?_)))))
  refine Ev.bind t1 (Ev.bind (eqHeat_self x.f0 x.f1 (by omega)) (Ev.if_pos rfl ?_))
  refine Ev.bind mk (Ev.if_neg (by show ¬ (1 + (x.f0.length : Int)) < 0; omega) ?_)
  refine Ev.bind (eq_self v (by omega)) ?_
  refine Ev.step (f := fun k => ((laws_markInt64S.f k v 1).bind fun bt => ((laws_heldInt64S.f k bt.2 1).bind fun t => (if t < 0 then (some false) else (if t = bt.1 then ((laws_toHeat.f k x.f0 x.f1).bind fun t2 => ((impl_HotPages.f k t2.1 t2.2).bind fun t3 => ((laws_eqInt64S.f k t3 v).bind fun t4 => (if t4 = true then ((laws_heldInt64S.f k bt.2 1).bind fun t5 => (if t5 < 0 then (some false) else (if t5 = bt.1 then (some true) else (some false)))) else (some false))))) else (some false)))))) (fun k => ?_) ?_
  · rw [laws_FnExactHotPages.j0]
    rfl
  refine Ev.bind (markInt64S_ev v 1 (by omega) (by omega)) ?_
  refine Ev.bind (heldInt64S_ev v.length 1 (by omega) (by omega)) (Ev.if_neg (by show ¬ (1 + (v.length : Int)) < 0; omega) (Ev.if_pos rfl ?_))
  refine Ev.bind t1 (Ev.bind i (Ev.bind (eq_self v (by omega)) (Ev.if_pos rfl ?_)))
  refine Ev.bind (heldInt64S_ev v.length 1 (by omega) (by omega)) (Ev.if_neg (by show ¬ (1 + (v.length : Int)) < 0; omega) (Ev.if_pos rfl ?_))
  exact Ev.now _
end Go.Proofs.Ytobidghdmcobmaa.Pure
