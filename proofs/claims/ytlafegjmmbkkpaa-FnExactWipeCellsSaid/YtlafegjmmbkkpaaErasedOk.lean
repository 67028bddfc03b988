/- What an erase makes of cells. Condition: fewer than a million of them. -/
import Derived.Test.YtlafegjmmbkkpaaQ2
import Derived.Test.YtlafegjmmbkkpaaXCloneI
import Derived.Test.YtlafegjmmbkkpaaCellsOk
namespace Go.Proofs.Ytlafegjmmbkkpaa.Q
open Go.RowKit Go.Proofs.YtlafegjmmbkkpaaW.PrintWords
set_option linter.unusedVariables false
def quarter (c : Int) : Int := wrap64 (Int.tdiv c 4)
theorem take_map_snoc (f : Int → Int) (l : List Int) (i : Nat) (h : i < l.length) : (l.take (i + 1)).map f = (l.take i).map f ++ [f l[i]] := by
  rw [List.take_succ_eq_append_getElem h, List.map_append]
  rfl
theorem okCells_len {l : List Int} (ok : okCells l = true) : l.length ≤ 64 := by
  unfold okCells at ok
  simp at ok
  exact ok.1
theorem okCells_ne {l : List Int} (ok : okCells l = false) : 0 < l.length := by
  rcases Nat.eq_zero_or_pos l.length with h0 | h0
  · rw [List.length_eq_zero_iff.1 h0] at ok
    simp [okCells, allIn] at ok
  · exact h0
theorem set_mid (f : Int → Int) (l : List Int) (i : Nat) (h : i < l.length) : ((l.take i).map f ++ l.drop i).set i (f l[i]) = (l.take (i + 1)).map f ++ l.drop (i + 1) := by
  have hi : ((l.take i).map f).length = i := by simp; omega
  rw [List.set_append_right _ _ (by omega), hi, Nat.sub_self, List.drop_eq_getElem_cons h, List.set_cons_zero, take_map_snoc f l i h, List.append_assoc]
  rfl
theorem get_mid (f : Int → Int) (l : List Int) (i : Nat) (h : i < l.length) : rd ((l.take i).map f ++ l.drop i) (i : Int) = l[i] := by
  have hi : ((l.take i).map f).length = i := by simp; omega
  have e : ((l.take i).map f ++ l.drop i)[i]? = some l[i] := by
    rw [List.getElem?_append_right (by omega), hi, Nat.sub_self, List.getElem?_drop, Nat.add_zero, List.getElem?_eq_getElem h]
  unfold rd
  rw [Int.toNat_natCast, List.getD_eq_getElem?_getD, e]
  rfl
theorem erased_loop (l : List Int) (hl : l.length ≤ 1000000) (d : Nat) : ∀ i : Nat, i ≤ l.length → l.length - i = d →
    Ev (fun k => impl_Cells_erased.l0 k (l.length : Int) i ((l.take i).map quarter ++ l.drop i)) (l.map quarter) := by
  induction d with
  | zero =>
    intro i h1 h2
    obtain rfl : i = l.length := by omega
    refine Ev.step (f := fun _ => some (l.map quarter)) (fun k => ?_) (Ev.now _)
    rw [impl_Cells_erased.l0, if_neg (by omega)]
    simp
  | succ d ih =>
    intro i h1 h2
    refine Ev.step (fun k => ?_) (ih (i + 1) (by omega) (by omega))
    have hn : ((l.take i).map quarter ++ l.drop i).length = l.length := by simp; omega
    rw [impl_Cells_erased.l0, if_pos (by omega), if_pos (by omega), hn, if_pos (by omega), get_mid quarter l i (by omega), Int.toNat_natCast, wrap64_id (x := (i : Int) + 1) (by omega) (by omega)]
    have e := set_mid quarter l i (by omega)
    unfold quarter at e ⊢
    rw [e]
    rfl
theorem erased_ev (l : List Int) (hl : l.length ≤ 1000000) : Ev (fun k => impl_Cells_erased.f k l) (l.map quarter) := by
  have h := erased_loop l hl l.length 0 (by omega) (by omega)
  unfold impl_Cells_erased.f slices_Clone_int64_int64.f
  rw [if_pos (by omega)]
  simpa using h
end Go.Proofs.Ytlafegjmmbkkpaa.Q
