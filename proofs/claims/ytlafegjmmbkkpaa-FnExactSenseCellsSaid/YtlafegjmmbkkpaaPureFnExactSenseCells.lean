/- The law FnExactSenseCells, as a statement over numbers and lists. No condition. -/
import Derived.Test.YtlafegjmmbkkpaaSayFnExactSenseCells
import Derived.Test.YtlafegjmmbkkpaaCellsOk
namespace Go.Proofs.Ytlafegjmmbkkpaa.Pure
open Go.RowKit Go.Proofs.Ytlafegjmmbkkpaa.Q Go.Proofs.YtlafegjmmbkkpaaW.PrintWords
def sense (c : Int) : Int := if c ≥ 128 then 48 else 49
theorem take_map_snoc (f : Int → Int) (l : List Int) (i : Nat) (h : i < l.length) : (l.take (i + 1)).map f = (l.take i).map f ++ [f l[i]] := by
  rw [List.take_succ_eq_append_getElem h, List.map_append]
  rfl
theorem spec_loop (l : List Int) (ok : okCells l = true) (hl : l.length ≤ 1000000) (d : Nat) : ∀ i : Nat, i ≤ l.length → l.length - i = d →
    Ev (fun k => spec_SenseCells.l0 k ((l.take i).map sense) i l) (strOfNums (l.map sense)) := by
  induction d with
  | zero =>
    intro i h1 h2
    obtain rfl : i = l.length := by omega
    rw [List.take_length]
    refine Ev.step (f := fun k => spec_SenseCells.j1 k (l.map sense) (l.length : Int) false l) (fun k => ?_) (Ev.step (f := fun _ => some (strOfNums (l.map sense))) (fun k => ?_) (Ev.now _))
    · rw [spec_SenseCells.l0, if_neg (by omega)]
    · rw [spec_SenseCells.j1, if_neg (by simp)]
  | succ d ih =>
    intro i h1 h2
    refine Ev.step (fun k => ?_) (Ev.bind (f := fun k t => spec_SenseCells.j1 k ((l.take i).map sense) i t l) (validCells_ev l) (Ev.step (fun k => ?_) (ih (i + 1) (by omega) (by omega))))
    · rw [spec_SenseCells.l0, if_pos (by omega)]
    · have hlen : ((l.take i).map sense).length < 140737488355328 := by simp; omega
      rw [spec_SenseCells.j1, if_pos ok, if_pos (by omega), if_pos (by omega), rd_get l i (by omega), if_pos hlen, if_pos hlen, take_map_snoc sense l i (by omega), wrap64_id (by omega) (by omega)]
      unfold sense
      by_cases h : l[i] ≥ 128
      · rw [if_pos h, if_pos h]; rfl
      · rw [if_neg h, if_neg h]; rfl
theorem impl_loop (l : List Int) (hl : l.length ≤ 1000000) (d : Nat) : ∀ i : Nat, i ≤ l.length → l.length - i = d →
    Ev (fun k => impl_SenseCells.l0 k ((l.take i).map sense ++ List.replicate (l.length - i) 0) l (l.length : Int) i) (strOfNums (l.map sense)) := by
  induction d with
  | zero =>
    intro i h1 h2
    obtain rfl : i = l.length := by omega
    refine Ev.step (f := fun _ => some (strOfNums (l.map sense))) (fun k => ?_) (Ev.now _)
    rw [impl_SenseCells.l0, if_neg (by omega)]
    simp
  | succ d ih =>
    intro i h1 h2
    refine Ev.step (fun k => ?_) (ih (i + 1) (by omega) (by omega))
    have hi : ((l.take i).map sense).length = i := by simp; omega
    have hn : ((l.take i).map sense ++ List.replicate (l.length - i) (0 : Int)).length = l.length := by simp; omega
    have e : ∀ v : Int, ((l.take i).map sense ++ List.replicate (l.length - i) (0 : Int)).set i v = (l.take i).map sense ++ [v] ++ List.replicate (l.length - (i + 1)) 0 := by
      intro v
      rw [List.set_append_right _ _ (by omega), hi, Nat.sub_self, show l.length - i = (l.length - (i + 1)) + 1 from by omega, List.replicate_succ, List.set_cons_zero, List.append_assoc]
      rfl
    have e2 : ∀ v v' : Int, ((l.take i).map sense ++ [v] ++ List.replicate (l.length - (i + 1)) (0 : Int)).set i v' = (l.take i).map sense ++ [v'] ++ List.replicate (l.length - (i + 1)) 0 := by
      intro v v'
      rw [List.append_assoc, List.set_append_right _ _ (by omega), hi, Nat.sub_self, List.append_assoc]
      rfl
    rw [impl_SenseCells.l0, if_pos (by omega), if_pos (by omega), if_pos (by omega), hn, if_pos (by omega), Int.toNat_natCast, e]
    simp only [Option.bind_some]
    rw [rd_get l i (by omega), wrap64_id (by omega) (by omega), e2, take_map_snoc sense l i (by omega)]
    unfold sense
    by_cases h : l[i] ≥ 128
    · rw [if_pos h, if_pos h]; rfl
    · rw [if_neg h, if_neg h]; rfl
theorem sense_same (l : List Int) (hl : l.length ≤ 35184372088832) : ∃ s t, Ev (fun k => spec_SenseCells.f k l) s ∧ Ev (fun k => impl_SenseCells.f k l) t ∧ t.toList = s.toList := by
  cases ok : okCells l with
  | true =>
    have h64 : l.length ≤ 64 := by
      unfold okCells at ok
      simp at ok
      exact ok.1
    have h1 := spec_loop l ok (by omega) l.length 0 (by omega) (by omega)
    have h2 := impl_loop l (by omega) l.length 0 (by omega) (by omega)
    refine ⟨_, _, h1, ?_, rfl⟩
    obtain ⟨K, h2⟩ := h2
    refine ⟨K, fun k hk => ?_⟩
    have h3 := h2 k hk
    dsimp only at h3 ⊢
    unfold impl_SenseCells.f
    rw [implCells_eq, ok]
    simp only [Option.bind_some, if_true]
    rw [if_pos (by omega), if_pos (by omega), Int.toNat_natCast]
    simpa using h3
  | false =>
    have hne : 0 < l.length := by
      rcases Nat.eq_zero_or_pos l.length with h0 | h0
      · rw [List.length_eq_zero_iff.1 h0] at ok
        simp [okCells, allIn] at ok
      · exact h0
    refine ⟨strOfNums [], ⟨#[]⟩, ?_, ?_, ?_⟩
    · refine Ev.step (fun k => ?_) (Ev.bind (f := fun k t => spec_SenseCells.j1 k [] 0 t l) (validCells_ev l) (Ev.step (f := fun _ => some (strOfNums [])) (fun k => ?_) (Ev.now _)))
      · unfold spec_SenseCells.f
        rw [spec_SenseCells.l0, if_pos (by omega)]
      · rw [ok, spec_SenseCells.j1, if_neg (by simp)]
    · refine ⟨0, fun k _ => ?_⟩
      show impl_SenseCells.f k l = _
      unfold impl_SenseCells.f
      rw [implCells_eq, ok]
      rfl
    · rfl
theorem FnExactSenseCells : laws_FnExactSenseCells.Pure := by
  intro x hg
  obtain ⟨hl, hb, _⟩ : x.f0.length ≤ maxLen ∧ x.f0.length * 8 ≤ 140737488351232 ∧ _ := hg
  have hm := maxLen_le
  obtain ⟨r, e, a, b⟩ := szCells_some x.f0 1048576 (by omega) (by omega) (by omega)
  obtain ⟨s, t, h1, h2, h3⟩ := sense_same x.f0 (by omega)
  unfold laws_FnExactSenseCells.f
  simp only [e, Option.bind_some]
  by_cases h : r < 0
  · exact ⟨0, by rw [if_pos h]⟩
  · have hn := b (by omega)
    refine Ev.rounds ?_
    refine Ev.if_neg h ?_
    refine Ev.bind (toCells_ev _ (by omega)) ?_
    refine Ev.bind h1 ?_
    refine Ev.bind (toCells_ev _ (by omega)) ?_
    refine Ev.bind h2 ?_
    refine Ev.if_pos h3 ?_
    refine Ev.bind (toCells_ev _ (by omega)) ?_
    refine Ev.bind (eqCells_self _ (by omega)) ?_
    exact Ev.now _
end Go.Proofs.Ytlafegjmmbkkpaa.Pure
