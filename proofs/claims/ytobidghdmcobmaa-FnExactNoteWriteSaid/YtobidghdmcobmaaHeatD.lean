/- The program's halving of a heat, and the mutate-check's shape of a heat. Conditions: those before each theorem. -/
import Derived.Test.YtobidghdmcobmaaHeatV
import Derived.Test.YtobidghdmcobmaaHeatC
import Derived.Test.YtobidghdmcobmaaInt64S
import Derived.Test.YtobidghdmcobmaaXDecay
import Derived.Test.YtobidghdmcobmaaXCloneI
import Derived.Test.YtobidghdmcobmaaQ2
namespace Go.Proofs.Ytobidghdmcobmaa.Pure
open Go.RowKit Go.Proofs.Ytobidghdmcobmaa.Q Go.Proofs.YtobidghdmcobmaaW.PrintWords
set_option linter.unusedVariables false
theorem markHeat_ev (l : List Int) (x : Int) (c : Int) (h0 : 0 ≤ c) (hb : c + l.length ≤ 9223372036854775806) : Ev (fun k => laws_markHeat.f k l x c) (c + l.length, marked c l.length) := by
  unfold laws_markHeat.f
  exact Ev.bind (markInt64S_ev l c h0 hb) (Ev.now _)
theorem heldHeat_ev (n : Nat) (x : Int) (c : Int) (h0 : 0 ≤ c) (hb : c + n ≤ 9223372036854775806) : Ev (fun k => laws_heldHeat.f k (marked c n) x c) (c + n) := by
  unfold laws_heldHeat.f
  exact Ev.bind (heldInt64S_ev n c h0 hb) (Ev.if_neg (by omega) (Ev.now _))
theorem take_map_snoc (f : Int → Int) (l : List Int) (i : Nat) (h : i < l.length) : (l.take (i + 1)).map f = (l.take i).map f ++ [f l[i]] := by
  rw [List.take_succ_eq_append_getElem h, List.map_append]
  rfl
theorem set_mid (f : Int → Int) (l : List Int) (i : Nat) (h : i < l.length) : ((l.take i).map f ++ l.drop i).set i (f l[i]) = (l.take (i + 1)).map f ++ l.drop (i + 1) := by
  have hi : ((l.take i).map f).length = i := by simp; omega
  rw [List.set_append_right _ _ (by omega), hi, Nat.sub_self, List.drop_eq_getElem_cons h, List.set_cons_zero, take_map_snoc f l i h, List.append_assoc]
  rfl
theorem get_mid (f : Int → Int) (l : List Int) (i : Nat) (h : i < l.length) : rd ((l.take i).map f ++ l.drop i) (i : Int) = l[i] := by
  have hi : ((l.take i).map f).length = i := by simp; omega
  have e : ((l.take i).map f ++ l.drop i)[i]? = some l[i] := by
    rw [List.getElem?_append_right (by omega), hi, Nat.sub_self, List.getElem?_drop, Nat.add_zero, List.getElem?_eq_getElem h]
  unfold rd
  rw [Int.toNat_natCast, List.getD_eq_getElem?_getD, e]
  rfl
theorem decayed_loop (l : List Int) (hl : l.length ≤ 1000000) (d : Nat) : ∀ i : Nat, i ≤ l.length → l.length - i = d →
    Ev (fun k => impl_Heat_decayed.l0 k (l.length : Int) i ((l.take i).map half ++ l.drop i) 0) (l.map half, 0) := by
  induction d with
  | zero =>
    intro i h1 h2
    obtain rfl : i = l.length := by omega
    refine Ev.step (f := fun _ => some (l.map half, 0)) (fun k => ?_) (Ev.now _)
    rw [impl_Heat_decayed.l0, if_neg (by omega)]
    simp
  | succ d ih =>
    intro i h1 h2
    refine Ev.step (fun k => ?_) (ih (i + 1) (by omega) (by omega))
    have hn : ((l.take i).map half ++ l.drop i).length = l.length := by simp; omega
    rw [impl_Heat_decayed.l0, if_pos (by omega), if_pos (by omega), hn, if_pos (by omega), get_mid half l i (by omega), Int.toNat_natCast, wrap64_id (x := (i : Int) + 1) (by omega) (by omega)]
    have e := set_mid half l i (by omega)
    unfold half at e ⊢
    rw [e]
    rfl
theorem decayed_ev (l : List Int) (x : Int) (hl : l.length ≤ 1000000) : Ev (fun k => impl_Heat_decayed.f k l x) (l.map half, 0) := by
  have h := decayed_loop l hl l.length 0 (by omega) (by omega)
  unfold impl_Heat_decayed.f slices_Clone_int64_int64.f
  rw [if_pos (by omega)]
  simpa using h
theorem ok_len {l : List Int} {x : Int} (h : okHeat l x = true) : l.length ≤ 48 := by
  unfold okHeat at h
  simp only [Bool.and_eq_true, decide_eq_true_eq] at h
  omega
end Go.Proofs.Ytobidghdmcobmaa.Pure
