/- The law FnExactWipeCells, as a statement over numbers and lists. No condition. -/
import Derived.Test.YtlafegjmmbkkpaaSayFnExactWipeCells
import Derived.Test.YtlafegjmmbkkpaaErasedOk
import Derived.Test.YtlafegjmmbkkpaaCellsMark
import Derived.Test.YtlafegjmmbkkpaaXRepeat
namespace Go.Proofs.Ytlafegjmmbkkpaa.Pure
open Go.RowKit Go.Proofs.Ytlafegjmmbkkpaa.Q Go.Proofs.YtlafegjmmbkkpaaW.PrintWords
theorem spec_loop (l : List Int) (ok : okCells l = true) (hl : l.length ≤ 1000000) (d : Nat) : ∀ i : Nat, i ≤ l.length → l.length - i = d →
    Ev (fun k => spec_WipeCells.l0 k i l (List.replicate i 63)) (List.replicate l.length 63) := by
  induction d with
  | zero =>
    intro i h1 h2
    obtain rfl : i = l.length := by omega
    refine Ev.step (f := fun _ => some (List.replicate l.length 63)) (fun k => ?_) (Ev.now _)
    rw [spec_WipeCells.l0, if_neg (by omega)]
  | succ d ih =>
    intro i h1 h2
    refine Ev.step (fun k => ?_) (Ev.bind (f := fun k t => if t = true then spec_WipeCells.l0 k ((i + 1 : Nat) : Int) l (List.replicate (i + 1) 63) else some (List.replicate i 63)) (validCells_ev l) (Ev.if_pos ok (ih (i + 1) (by omega) (by omega))))
    have hlen : (List.replicate i (63 : Int)).length < 17592186044416 := by simp; omega
    rw [spec_WipeCells.l0, if_pos (by omega), if_pos hlen, wrap64_id (x := (i : Int) + 1) (by omega) (by omega), List.replicate_succ']
    rfl
theorem spec_ev (l : List Int) (hl : l.length ≤ 35184372088832) : Ev (fun k => spec_WipeCells.f k l) (if okCells l = true then List.replicate l.length 63 else []) := by
  cases ok : okCells l with
  | true =>
    have h64 := okCells_len ok
    rw [if_pos rfl]
    exact spec_loop l ok (by omega) l.length 0 (by omega) (by omega)
  | false =>
    have hne := okCells_ne ok
    rw [if_neg (by simp)]
    refine Ev.step (fun k => ?_) (Ev.bind (f := fun k t => if t = true then (if ([] : List Int).length < 17592186044416 then (spec_WipeCells.l0 k (wrap64 (0 + 1)) l ([] ++ [63])) else (none)) else some []) (validCells_ev l) (Ev.if_neg (by rw [ok]; simp) (Ev.now _)))
    · unfold spec_WipeCells.f
      rw [spec_WipeCells.l0, if_pos (by omega)]
theorem zer_at : ∀ i : Nat, i < 64 → zer.data.toList[i]? = some 48 := by decide
theorem zer_bt (n i : Nat) (hn : n ≤ 64) (hi : i < n) : (zer.extract 0 n).size = n ∧ bt (zer.extract 0 n) (i : Int) = 48 := by
  have h1 : (zer.extract 0 n).data.toList = zer.data.toList.take n := by
    rw [ByteArray.data_extract, Array.toList_extract]
    rfl
  have hz : zer.data.toList.length = 64 := rfl
  have hs : (zer.extract 0 n).size = n := by
    rw [← data_length, h1, List.length_take, hz]
    omega
  refine ⟨hs, ?_⟩
  have h2 : (zer.extract 0 n).data.toList[i]? = some 48 := by
    rw [h1, List.getElem?_take_of_lt hi]
    exact zer_at i (by omega)
  rw [← rd_bytesOf]
  unfold rd bytesOf
  rw [Int.toNat_natCast, List.getD_eq_getElem?_getD, List.getElem?_map, h2]
  rfl
theorem zer_size (n : Nat) (hn : n ≤ 64) : (zer.extract 0 n).size = n := by
  rcases Nat.eq_zero_or_pos n with h | h
  · subst h
    rfl
  · exact (zer_bt n 0 hn h).1
theorem prog_loop (l : List Int) (hl : l.length ≤ 64) (d : Nat) : ∀ i : Nat, i ≤ l.length → l.length - i = d →
    Ev (fun k => impl_Cells_programmed.l0 k (zer.extract 0 l.length) (l.length : Int) i (List.replicate i 255 ++ l.drop i)) (List.replicate l.length 255) := by
  induction d with
  | zero =>
    intro i h1 h2
    obtain rfl : i = l.length := by omega
    refine Ev.step (f := fun _ => some (List.replicate l.length 255)) (fun k => ?_) (Ev.now _)
    rw [impl_Cells_programmed.l0, if_neg (by omega)]
    simp
  | succ d ih =>
    intro i h1 h2
    obtain ⟨hs, hb⟩ := zer_bt l.length i hl (by omega)
    have hn : (List.replicate i (255 : Int) ++ l.drop i).length = l.length := by simp; omega
    have he : (List.replicate i (255 : Int) ++ l.drop i).set i 255 = List.replicate (i + 1) 255 ++ l.drop (i + 1) := by
      rw [List.set_append_right _ _ (by simp), List.length_replicate, Nat.sub_self, List.drop_eq_getElem_cons (by omega), List.set_cons_zero, List.replicate_succ', List.append_assoc]
      rfl
    refine Ev.step (fun k => ?_) (ih (i + 1) (by omega) (by omega))
    rw [impl_Cells_programmed.l0, if_pos (by omega), if_pos (by omega), hs, if_pos (by omega), hb, if_pos rfl, hn, if_pos (by omega), Int.toNat_natCast, he, wrap64_id (x := (i : Int) + 1) (by omega) (by omega)]
    rfl
theorem prog_ev (l : List Int) (hl : l.length ≤ 64) : Ev (fun k => impl_Cells_programmed.f k l (zer.extract 0 l.length)) (List.replicate l.length 255) := by
  have h := prog_loop l hl l.length 0 (by omega) (by omega)
  unfold impl_Cells_programmed.f slices_Clone_int64_int64.f
  rw [if_pos (by omega)]
  simpa using h
theorem impl_ev (l : List Int) (hl : l.length ≤ 35184372088832) : Ev (fun k => impl_WipeCells.f k l) (if okCells l = true then List.replicate l.length 63 else []) := by
  unfold impl_WipeCells.f
  refine Ev.bind1 (implCells_eq l) ?_
  cases ok : okCells l with
  | true =>
    have h64 := okCells_len ok
    have hr : strings_Repeat.f (⟨#[48]⟩ : ByteArray) (l.length : Int) = some (zer.extract 0 l.length) := by
      unfold strings_Repeat.f
      rw [if_pos ⟨by rw [Lib.toList_data], by omega, by omega⟩, Int.toNat_natCast]
    have he := erased_ev (List.replicate l.length 255) (by simp; omega)
    rw [List.map_replicate, show quarter 255 = 63 from by unfold quarter wrap64; decide] at he
    rw [if_pos rfl]
    exact Ev.if_pos rfl (Ev.bind1 hr (Ev.bind (prog_ev l h64) (Ev.bind he (Ev.now _))))
  | false =>
    rw [if_neg (by simp)]
    exact Ev.if_neg (by simp) (Ev.now _)
theorem FnExactWipeCells : laws_FnExactWipeCells.Pure := by
  intro x hg
  obtain ⟨hl, hb, _⟩ : x.f0.length ≤ maxLen ∧ x.f0.length * 8 ≤ 140737488351232 ∧ _ := hg
  have hm := maxLen_le
  obtain ⟨r, e, a, b⟩ := szCells_some x.f0 1048576 (by omega) (by omega) (by omega)
  have h1 := spec_ev x.f0 (by omega)
  have h2 := impl_ev x.f0 (by omega)
  have hv : (if okCells x.f0 = true then List.replicate x.f0.length (63 : Int) else []).length ≤ 64 := by
    cases ok : okCells x.f0 with
    | true => rw [if_pos rfl, List.length_replicate]; exact okCells_len ok
    | false => simp
  generalize (if okCells x.f0 = true then List.replicate x.f0.length (63 : Int) else []) = v at h1 h2 hv
  unfold laws_FnExactWipeCells.f
  simp only [e, Option.bind_some]
  by_cases h : r < 0
  · exact ⟨0, by rw [if_pos h]⟩
  · have hn := b (by omega)
    refine Ev.rounds ?_
    refine Ev.if_neg h ?_
    refine Ev.bind (toCells_ev _ (by omega)) ?_
    refine Ev.bind h1 ?_
    refine Ev.bind (toCells_ev _ (by omega)) ?_
    refine Ev.bind h2 ?_
    refine Ev.bind (eqCells_self _ (by omega)) (Ev.if_pos rfl ?_)
    refine Ev.bind (toCells_ev _ (by omega)) ?_
    refine Ev.bind (eqCells_self _ (by omega)) (Ev.if_pos rfl ?_)
    refine Ev.bind (markCells_ev _ 1 (by omega) (by omega)) (Ev.if_neg (by show ¬ (1 + (x.f0.length : Int)) < 0; omega) ?_)
    refine Ev.bind (eqCells_self _ (by omega)) ?_
    refine Ev.step (f := fun k => ((laws_markCells.f k v 1).bind fun bt => ((laws_heldCells.f k bt.2 1).bind fun t => (if t < 0 then (some false) else (if t = bt.1 then ((laws_toCells.f k x.f0).bind fun t2 => ((impl_WipeCells.f k t2).bind fun t3 => ((laws_eqCells.f k t3 v).bind fun t4 => (if t4 = true then ((laws_heldCells.f k bt.2 1).bind fun t5 => (if t5 < 0 then (some false) else (if t5 = bt.1 then (some true) else (some false)))) else (some false))))) else (some false)))))) (fun k => ?_) ?_
    · rw [laws_FnExactWipeCells.j0]
      rfl
    refine Ev.bind (markCells_ev _ 1 (by omega) (by omega)) ?_
    refine Ev.bind (heldCells_ev v.length 1 (by omega) (by omega)) (Ev.if_neg (by show ¬ (1 + (v.length : Int)) < 0; omega) (Ev.if_pos rfl ?_))
    refine Ev.bind (toCells_ev _ (by omega)) ?_
    refine Ev.bind h2 ?_
    refine Ev.bind (eqCells_self _ (by omega)) (Ev.if_pos rfl ?_)
    refine Ev.bind (heldCells_ev v.length 1 (by omega) (by omega)) (Ev.if_neg (by show ¬ (1 + (v.length : Int)) < 0; omega) (Ev.if_pos rfl ?_))
    exact Ev.now _
end Go.Proofs.Ytlafegjmmbkkpaa.Pure
