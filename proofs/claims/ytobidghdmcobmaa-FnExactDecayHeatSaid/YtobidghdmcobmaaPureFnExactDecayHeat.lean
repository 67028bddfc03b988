/- The law FnExactDecayHeat, as a statement over numbers and lists. No condition. -/
import Derived.Test.YtobidghdmcobmaaSayFnExactDecayHeat
import Derived.Test.YtobidghdmcobmaaHeatV
import Derived.Test.YtobidghdmcobmaaHeatC
import Derived.Test.YtobidghdmcobmaaInt64S
import Derived.Test.YtobidghdmcobmaaXDecay
import Derived.Test.YtobidghdmcobmaaXCloneI
namespace Go.Proofs.Ytobidghdmcobmaa.Pure
open Go.RowKit Go.Proofs.Ytobidghdmcobmaa.Q Go.Proofs.YtobidghdmcobmaaW.PrintWords
set_option linter.unusedVariables false
theorem markHeat_ev (l : List Int) (x : Int) (c : Int) (h0 : 0 ≤ c) (hb : c + l.length ≤ 9223372036854775806) : Ev (fun k => laws_markHeat.f k l x c) (c + l.length, marked c l.length) := by
  unfold laws_markHeat.f
  exact Ev.bind (markInt64S_ev l c h0 hb) (Ev.now _)
theorem heldHeat_ev (n : Nat) (x : Int) (c : Int) (h0 : 0 ≤ c) (hb : c + n ≤ 9223372036854775806) : Ev (fun k => laws_heldHeat.f k (marked c n) x c) (c + n) := by
  unfold laws_heldHeat.f
  exact Ev.bind (heldInt64S_ev n c h0 hb) (Ev.if_neg (by omega) (Ev.now _))
theorem take_map_snoc (f : Int → Int) (l : List Int) (i : Nat) (h : i < l.length) : (l.take (i + 1)).map f = (l.take i).map f ++ [f l[i]] := by
  rw [List.take_succ_eq_append_getElem h, List.map_append]
  rfl
theorem set_mid (f : Int → Int) (l : List Int) (i : Nat) (h : i < l.length) : ((l.take i).map f ++ l.drop i).set i (f l[i]) = (l.take (i + 1)).map f ++ l.drop (i + 1) := by
  have hi : ((l.take i).map f).length = i := by simp; omega
  rw [List.set_append_right _ _ (by omega), hi, Nat.sub_self, List.drop_eq_getElem_cons h, List.set_cons_zero, take_map_snoc f l i h, List.append_assoc]
  rfl
theorem get_mid (f : Int → Int) (l : List Int) (i : Nat) (h : i < l.length) : rd ((l.take i).map f ++ l.drop i) (i : Int) = l[i] := by
  have hi : ((l.take i).map f).length = i := by simp; omega
  have e : ((l.take i).map f ++ l.drop i)[i]? = some l[i] := by
    rw [List.getElem?_append_right (by omega), hi, Nat.sub_self, List.getElem?_drop, Nat.add_zero, List.getElem?_eq_getElem h]
  unfold rd
  rw [Int.toNat_natCast, List.getD_eq_getElem?_getD, e]
  rfl
theorem decayed_loop (l : List Int) (hl : l.length ≤ 1000000) (d : Nat) : ∀ i : Nat, i ≤ l.length → l.length - i = d →
    Ev (fun k => impl_Heat_decayed.l0 k (l.length : Int) i ((l.take i).map half ++ l.drop i) 0) (l.map half, 0) := by
  induction d with
  | zero =>
    intro i h1 h2
    obtain rfl : i = l.length := by omega
    refine Ev.step (f := fun _ => some (l.map half, 0)) (fun k => ?_) (Ev.now _)
    rw [impl_Heat_decayed.l0, if_neg (by omega)]
    simp
  | succ d ih =>
    intro i h1 h2
    refine Ev.step (fun k => ?_) (ih (i + 1) (by omega) (by omega))
    have hn : ((l.take i).map half ++ l.drop i).length = l.length := by simp; omega
    rw [impl_Heat_decayed.l0, if_pos (by omega), if_pos (by omega), hn, if_pos (by omega), get_mid half l i (by omega), Int.toNat_natCast, wrap64_id (x := (i : Int) + 1) (by omega) (by omega)]
    have e := set_mid half l i (by omega)
    unfold half at e ⊢
    rw [e]
    rfl
theorem decayed_ev (l : List Int) (x : Int) (hl : l.length ≤ 1000000) : Ev (fun k => impl_Heat_decayed.f k l x) (l.map half, 0) := by
  have h := decayed_loop l hl l.length 0 (by omega) (by omega)
  unfold impl_Heat_decayed.f slices_Clone_int64_int64.f
  rw [if_pos (by omega)]
  simpa using h
def decOf (l : List Int) (x : Int) : List Int × Int := if okHeat l x = true then (l.map half, 0) else ([], 0)
theorem ok_len {l : List Int} {x : Int} (h : okHeat l x = true) : l.length ≤ 48 := by
  unfold okHeat at h
  simp only [Bool.and_eq_true, decide_eq_true_eq] at h
  omega
theorem specDecay_ev (l : List Int) (x : Int) (hl : l.length ≤ 35184372088832) : Ev (fun k => spec_DecayHeat.f k l x) (decOf l x) := by
  unfold spec_DecayHeat.f decOf
  refine Ev.bind (l13Ok_ev l x (by omega)) ?_
  cases ok : okHeat l x with
  | true =>
    have := ok_len ok
    rw [if_pos rfl]
    show Ev (fun _ => if l.length ≤ 1000000 then some (l.map half, (0 : Int)) else none) _
    rw [if_pos (by omega)]
    exact Ev.now _
  | false =>
    show Ev (fun _ => some (([] : List Int), (0 : Int))) _
    exact Ev.now _
theorem implDecay_ev (l : List Int) (x : Int) (hl : l.length ≤ 35184372088832) : Ev (fun k => impl_DecayHeat.f k l x) (decOf l x) := by
  unfold impl_DecayHeat.f decOf
  refine Ev.bind1 (implHeat_eq l x) ?_
  cases ok : okHeat l x with
  | true =>
    have := ok_len ok
    rw [if_pos rfl]
    exact Ev.if_pos rfl (Ev.bind (decayed_ev l x (by omega)) (Ev.now _))
  | false =>
    rw [if_neg (by decide)]
    exact Ev.if_neg (by decide) (Ev.now _)
theorem FnExactDecayHeat : laws_FnExactDecayHeat.Pure := by
  intro x hg
  obtain ⟨⟨hl, hb, _⟩, _⟩ : (x.f0.length ≤ maxLen ∧ x.f0.length * 8 ≤ 140737488351232 ∧ _) ∧ _ := hg
  have hm := maxLen_le
  obtain ⟨r, e, a, b⟩ := szHeat_some x.f0 x.f1 1048576 (by omega) (by omega) (by omega)
  have h1 := specDecay_ev x.f0 x.f1 (by omega)
  have h2 := implDecay_ev x.f0 x.f1 (by omega)
  have hv : (decOf x.f0 x.f1).1.length ≤ 48 := by
    unfold decOf
    cases ok : okHeat x.f0 x.f1 with
    | true => rw [if_pos rfl, List.length_map]; exact ok_len ok
    | false => simp
  generalize decOf x.f0 x.f1 = v at h1 h2 hv
  unfold laws_FnExactDecayHeat.f
  simp only [e, Option.bind_some]
  by_cases h : r < 0
  · exact ⟨0, by rw [if_pos h]⟩
  · have hn := b (by omega)
    have t := toHeat_ev x.f0 x.f1 (by omega)
    have ev := eqHeat_self v.1 v.2 (by omega)
    have ex := eqHeat_self x.f0 x.f1 (by omega)
    have q3 : ¬ ((1 : Int) + (v.1.length : Int) < 0) := by omega
    refine Ev.rounds ?_
    refine Ev.if_neg h ?_
    refine Ev.bind t (Ev.bind h1 (Ev.bind t (Ev.bind h2 (Ev.bind ev (Ev.if_pos rfl (Ev.bind t (Ev.bind ex (Ev.if_pos rfl ?_))))))))
    refine Ev.bind (markHeat_ev x.f0 x.f1 1 (by omega) (by omega)) (Ev.if_neg (by show ¬ (1 + (x.f0.length : Int)) < 0; omega) (Ev.bind ev ?_))
    refine Ev.step (f := fun k => ((laws_markHeat.f k v.1 v.2 1).bind fun bt184 => ((laws_heldHeat.f k bt184.2 v.2 1).bind fun t186 => (if t186 < 0 then (some false) else (if t186 = bt184.1 then ((laws_toHeat.f k x.f0 x.f1).bind fun bt187 => ((impl_DecayHeat.f k bt187.1 bt187.2).bind fun bt191 => ((laws_eqHeat.f k bt191.1 bt191.2 v.1 v.2).bind fun t196 => (if t196 = true then ((laws_heldHeat.f k bt184.2 v.2 1).bind fun t197 => (if t197 < 0 then (some false) else (if t197 = bt184.1 then (some true) else (some false)))) else (some false))))) else (some false)))))) (fun k => ?_) ?_
    · show laws_FnExactDecayHeat.j0 (k + 1) (!true) x.f0 x.f1 v.1 v.2 v.1 v.2 = _
      rw [laws_FnExactDecayHeat.j0, if_neg (by decide)]
    refine Ev.bind (markHeat_ev v.1 v.2 1 (by omega) (by omega)) ?_
    refine Ev.bind (heldHeat_ev v.1.length v.2 1 (by omega) (by omega)) (Ev.if_neg q3 (Ev.if_pos rfl ?_))
    refine Ev.bind t (Ev.bind h2 (Ev.bind ev (Ev.if_pos rfl ?_)))
    exact Ev.bind (heldHeat_ev v.1.length v.2 1 (by omega) (by omega)) (Ev.if_neg q3 (Ev.if_pos rfl (Ev.now _)))
end Go.Proofs.Ytobidghdmcobmaa.Pure
