/- The law FnExactEraseCells, as a statement over numbers and lists. No condition. -/
import Derived.Test.YtlafegjmmbkkpaaSayFnExactEraseCells
import Derived.Test.YtlafegjmmbkkpaaErasedOk
import Derived.Test.YtlafegjmmbkkpaaCellsMark
namespace Go.Proofs.Ytlafegjmmbkkpaa.Pure
open Go.RowKit Go.Proofs.Ytlafegjmmbkkpaa.Q Go.Proofs.YtlafegjmmbkkpaaW.PrintWords
theorem spec_loop (l : List Int) (ok : okCells l = true) (hl : l.length ≤ 1000000) (d : Nat) : ∀ i : Nat, i ≤ l.length → l.length - i = d →
    Ev (fun k => spec_EraseCells.l0 k i l ((l.take i).map quarter)) (l.map quarter) := by
  induction d with
  | zero =>
    intro i h1 h2
    obtain rfl : i = l.length := by omega
    rw [List.take_length]
    refine Ev.step (f := fun _ => some (l.map quarter)) (fun k => ?_) (Ev.now _)
    rw [spec_EraseCells.l0, if_neg (by omega)]
  | succ d ih =>
    intro i h1 h2
    refine Ev.step (fun k => ?_) (Ev.bind (f := fun k t => if t = true then spec_EraseCells.l0 k ((i + 1 : Nat) : Int) l ((l.take (i + 1)).map quarter) else some ((l.take i).map quarter)) (validCells_ev l) (Ev.if_pos ok (ih (i + 1) (by omega) (by omega))))
    have hlen : ((l.take i).map quarter).length < 17592186044416 := by simp; omega
    rw [spec_EraseCells.l0, if_pos (by omega), if_pos (by omega), if_pos hlen, rd_get l i (by omega), wrap64_id (x := (i : Int) + 1) (by omega) (by omega), take_map_snoc quarter l i (by omega)]
    rfl
theorem spec_ev (l : List Int) (hl : l.length ≤ 35184372088832) : Ev (fun k => spec_EraseCells.f k l) (if okCells l = true then l.map quarter else []) := by
  cases ok : okCells l with
  | true =>
    have h64 := okCells_len ok
    rw [if_pos rfl]
    exact spec_loop l ok (by omega) l.length 0 (by omega) (by omega)
  | false =>
    have hne := okCells_ne ok
    rw [if_neg (by simp)]
    refine Ev.step (fun k => ?_) (Ev.bind (f := fun k t => if t = true then (if (0 : Int) ≤ 0 then (if ([] : List Int).length < 17592186044416 then (spec_EraseCells.l0 k (wrap64 (0 + 1)) l ([] ++ [wrap64 (Int.tdiv (rd l 0) 4)])) else (none)) else (none)) else some []) (validCells_ev l) (Ev.if_neg (by rw [ok]; simp) (Ev.now _)))
    · unfold spec_EraseCells.f
      rw [spec_EraseCells.l0, if_pos (by omega)]
theorem impl_ev (l : List Int) (hl : l.length ≤ 35184372088832) : Ev (fun k => impl_EraseCells.f k l) (if okCells l = true then l.map quarter else []) := by
  unfold impl_EraseCells.f
  refine Ev.bind1 (implCells_eq l) ?_
  cases ok : okCells l with
  | true =>
    have h64 := okCells_len ok
    rw [if_pos rfl]
    exact Ev.if_pos rfl (Ev.bind (erased_ev l (by omega)) (Ev.now _))
  | false =>
    rw [if_neg (by simp)]
    exact Ev.if_neg (by simp) (Ev.now _)
theorem FnExactEraseCells : laws_FnExactEraseCells.Pure := by
  intro x hg
  obtain ⟨hl, hb, _⟩ : x.f0.length ≤ maxLen ∧ x.f0.length * 8 ≤ 140737488351232 ∧ _ := hg
  have hm := maxLen_le
  obtain ⟨r, e, a, b⟩ := szCells_some x.f0 1048576 (by omega) (by omega) (by omega)
  have h1 := spec_ev x.f0 (by omega)
  have h2 := impl_ev x.f0 (by omega)
  have hv : (if okCells x.f0 = true then x.f0.map quarter else []).length ≤ 64 := by
    cases ok : okCells x.f0 with
    | true => rw [if_pos rfl, List.length_map]; exact okCells_len ok
    | false => simp
  generalize (if okCells x.f0 = true then x.f0.map quarter else []) = v at h1 h2 hv
  unfold laws_FnExactEraseCells.f
  simp only [e, Option.bind_some]
  by_cases h : r < 0
  · exact ⟨0, by rw [if_pos h]⟩
  · have hn := b (by omega)
    refine Ev.rounds ?_
    refine Ev.if_neg h ?_
    refine Ev.bind (toCells_ev _ (by omega)) ?_
    refine Ev.bind h1 ?_
    refine Ev.bind (toCells_ev _ (by omega)) ?_
    refine Ev.bind h2 ?_
    refine Ev.bind (eqCells_self _ (by omega)) (Ev.if_pos rfl ?_)
    refine Ev.bind (toCells_ev _ (by omega)) ?_
    refine Ev.bind (eqCells_self _ (by omega)) (Ev.if_pos rfl ?_)
    refine Ev.bind (markCells_ev _ 1 (by omega) (by omega)) (Ev.if_neg (by show ¬ (1 + (x.f0.length : Int)) < 0; omega) ?_)
    refine Ev.bind (eqCells_self _ (by omega)) ?_
    refine Ev.step (f := fun k => ((laws_markCells.f k v 1).bind fun bt => ((laws_heldCells.f k bt.2 1).bind fun t => (if t < 0 then (some false) else (if t = bt.1 then ((laws_toCells.f k x.f0).bind fun t2 => ((impl_EraseCells.f k t2).bind fun t3 => ((laws_eqCells.f k t3 v).bind fun t4 => (if t4 = true then ((laws_heldCells.f k bt.2 1).bind fun t5 => (if t5 < 0 then (some false) else (if t5 = bt.1 then (some true) else (some false)))) else (some false))))) else (some false)))))) (fun k => ?_) ?_
    · rw [laws_FnExactEraseCells.j0]
      rfl
    refine Ev.bind (markCells_ev _ 1 (by omega) (by omega)) ?_
    refine Ev.bind (heldCells_ev v.length 1 (by omega) (by omega)) (Ev.if_neg (by show ¬ (1 + (v.length : Int)) < 0; omega) (Ev.if_pos rfl ?_))
    refine Ev.bind (toCells_ev _ (by omega)) ?_
    refine Ev.bind h2 ?_
    refine Ev.bind (eqCells_self _ (by omega)) (Ev.if_pos rfl ?_)
    refine Ev.bind (heldCells_ev v.length 1 (by omega) (by omega)) (Ev.if_neg (by show ¬ (1 + (v.length : Int)) < 0; omega) (Ev.if_pos rfl ?_))
    exact Ev.now _
end Go.Proofs.Ytlafegjmmbkkpaa.Pure
