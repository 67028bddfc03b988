/- The law FnExactNoteWrite, as a statement over numbers and lists. No condition. -/
import Derived.Test.YtobidghdmcobmaaSayFnExactNoteWrite
import Derived.Test.YtobidghdmcobmaaHeatD
import Derived.Test.YtobidghdmcobmaaXNote
namespace Go.Proofs.Ytobidghdmcobmaa.Pure
open Go.RowKit Go.Proofs.Ytobidghdmcobmaa.Q Go.Proofs.YtobidghdmcobmaaW.PrintWords Go.Proofs.YtobidghdmcobmaaW.PrintMore
set_option linter.unusedVariables false
theorem note_ev (l : List Int) (x i : Int) (h0 : 0 ≤ i) (h1 : i < (l.length : Int)) (hl : l.length ≤ 1000000) : Ev (fun k => impl_Heat_note.f k l x i) (noteL l x i, noteW x) := by
  unfold impl_Heat_note.f slices_Clone_int64_int64.f
  rw [if_pos (by omega)]
  have em : (if (1000000 : Int) < wrap64 (rd l i + 1) then (1000000 : Int) else wrap64 (rd l i + 1)) = capM (wrap64 (rd l i + 1)) := by unfold capM; (repeat' split) <;> omega
  have e : l.set i.toNat (mn (wrap64 (rd l i + 1)) 1000000) = noteC l i := by
    unfold noteC mn
    rw [em]
  refine Ev.bind1 rfl (Ev.if_pos h0 (Ev.if_pos h1 (Ev.bind1 (congrArg some e) ?_)))
  by_cases h : wrap64 (x + 1) = 16
  · refine Ev.if_pos h ?_
    have ht : (noteL l x i, noteW x) = ((noteC l i).map half, 0) := by unfold noteL noteW; rw [if_pos h, if_pos h]
    rw [ht]
    exact Ev.bind (decayed_ev (noteC l i) _ (by rw [noteC_len]; exact hl)) (Ev.now _)
  · refine Ev.if_neg h ?_
    have ht : (noteL l x i, noteW x) = (noteC l i, wrap64 (x + 1)) := by unfold noteL noteW; rw [if_neg h, if_neg h]
    rw [ht]
    exact Ev.now _
def noteOf (l : List Int) (x i : Int) : List Int × Int × Int := if okHeat l x = true then (if 0 ≤ i ∧ i ≤ (l.length : Int) - 1 then (noteL l x i, noteW x, 0) else ([], 0, 2)) else ([], 0, 1)
theorem specNote_ev (l : List Int) (x i : Int) : spec_NoteWrite.f l x i = some (noteOf l x i) := by
  unfold spec_NoteWrite.f noteOf
  repeat' split
  all_goals rfl
theorem implNote_ev (l : List Int) (x i : Int) (hl : l.length ≤ 35184372088832) : Ev (fun k => impl_NoteWrite.f k l x i) (noteOf l x i) := by
  unfold impl_NoteWrite.f noteOf
  refine Ev.bind1 (implHeat_eq l x) ?_
  cases ok : okHeat l x with
  | true =>
    have := ok_len ok
    have ei : impl_isIndex.f i (l.length : Int) = some (decide (0 ≤ i ∧ i ≤ (l.length : Int) - 1)) := by
      unfold impl_isIndex.f
      rw [within_eq, Option.bind_some, wrap64_id (by omega) (by omega)]
    rw [if_pos rfl]
    refine Ev.if_pos rfl (Ev.bind1 ei ?_)
    by_cases h : 0 ≤ i ∧ i ≤ (l.length : Int) - 1
    · rw [if_pos h]
      refine Ev.if_pos (decide_eq_true h) (Ev.bind (note_ev l x i h.1 (by omega) (by omega)) (Ev.now _))
    · rw [if_neg h]
      exact Ev.if_neg (by rw [decide_eq_false h]; decide) (Ev.now _)
  | false =>
    rw [if_neg (by decide)]
    exact Ev.if_neg (by decide) (Ev.now _)
theorem FnExactNoteWrite : laws_FnExactNoteWrite.Pure := by
  intro x i hg hi
  obtain ⟨⟨hl, hb, _⟩, _⟩ : (x.f0.length ≤ maxLen ∧ x.f0.length * 8 ≤ 140737488351232 ∧ _) ∧ _ := hg
  have hm := maxLen_le
  obtain ⟨r, e, a, b⟩ := szHeat_some x.f0 x.f1 1048576 (by omega) (by omega) (by omega)
  have h1 := specNote_ev x.f0 x.f1 i
  have h2 := implNote_ev x.f0 x.f1 i (by omega)
  have hv : (noteOf x.f0 x.f1 i).1.length ≤ 48 := by
    unfold noteOf
    cases ok : okHeat x.f0 x.f1 with
    | true =>
      rw [if_pos rfl]
      have := ok_len ok
      split
      · show (noteL x.f0 x.f1 i).length ≤ 48
        rw [noteL_len]
        exact this
      · exact Nat.zero_le _
    | false =>
      rw [if_neg (by decide)]
      exact Nat.zero_le _
  generalize noteOf x.f0 x.f1 i = v at h1 h2 hv
  unfold laws_FnExactNoteWrite.f
  simp only [e, Option.bind_some]
  by_cases h : r < 0
  · exact ⟨0, by rw [if_pos h]⟩
  · have hn := b (by omega)
    have t := toHeat_ev x.f0 x.f1 (by omega)
    have ev := eqHeat_self v.1 v.2.1 (by omega)
    have ex := eqHeat_self x.f0 x.f1 (by omega)
    have q3 : ¬ ((1 : Int) + (v.1.length : Int) < 0) := by omega
    have en : (v.2.2 != v.2.2) = false := by simp
    have J2 : Ev (fun k => laws_FnExactNoteWrite.j2 k (1 + (v.1.length : Int)) false (marked 1 v.1.length) v.2.1) true := by
      refine Ev.step (f := fun k => (laws_heldHeat.f k (marked 1 v.1.length) v.2.1 1).bind fun t226 => (if t226 < 0 then (some false) else (if t226 = 1 + (v.1.length : Int) then (some true) else (some false)))) (fun k => ?_) ?_
      · rw [laws_FnExactNoteWrite.j2, if_neg (by decide)]
      · exact Ev.bind (heldHeat_ev v.1.length v.2.1 1 (by omega) (by omega)) (Ev.if_neg q3 (Ev.if_pos rfl (Ev.now _)))
    have J1 : Ev (fun k => laws_FnExactNoteWrite.j1 k i v.2.2 false x.f0 x.f1 v.1 v.2.1 v.1 v.2.1) true := by
      refine Ev.step (f := fun k => (laws_markHeat.f k v.1 v.2.1 1).bind fun bt212 => ((laws_heldHeat.f k bt212.2 v.2.1 1).bind fun t214 => (if t214 < 0 then (some false) else (if t214 = bt212.1 then ((laws_toHeat.f k x.f0 x.f1).bind fun bt215 => ((impl_NoteWrite.f k bt215.1 bt215.2 i).bind fun bt219 => ((laws_eqHeat.f k bt219.1 bt219.2.1 v.1 v.2.1).bind fun t225 => (if t225 = true then (laws_FnExactNoteWrite.j2 k bt212.1 (bt219.2.2 != v.2.2) bt212.2 v.2.1) else (laws_FnExactNoteWrite.j2 k bt212.1 true bt212.2 v.2.1))))) else (some false))))) (fun k => ?_) ?_
      · rw [laws_FnExactNoteWrite.j1, if_neg (by decide)]
      · refine Ev.bind (markHeat_ev v.1 v.2.1 1 (by omega) (by omega)) ?_
        refine Ev.bind (heldHeat_ev v.1.length v.2.1 1 (by omega) (by omega)) (Ev.if_neg q3 (Ev.if_pos rfl ?_))
        refine Ev.bind t (Ev.bind h2 (Ev.bind ev (Ev.if_pos rfl ?_)))
        simp only [en]
        exact J2
    have J0 : Ev (fun k => laws_FnExactNoteWrite.j0 k i v.2.2 v.2.2 false x.f0 x.f1 v.1 v.2.1 x.f0 x.f1 v.1 v.2.1) true := by
      refine Ev.step (f := fun k => (laws_toHeat.f k x.f0 x.f1).bind fun bt204 => ((laws_eqHeat.f k x.f0 x.f1 bt204.1 bt204.2).bind fun t208 => (if t208 = true then ((laws_markHeat.f k x.f0 x.f1 1).bind fun bt209 => (if bt209.1 < 0 then (laws_FnExactNoteWrite.j1 k i v.2.2 true x.f0 x.f1 v.1 v.2.1 v.1 v.2.1) else ((laws_eqHeat.f k v.1 v.2.1 v.1 v.2.1).bind fun t211 => (if t211 = true then (laws_FnExactNoteWrite.j1 k i v.2.2 (v.2.2 != v.2.2) x.f0 x.f1 v.1 v.2.1 v.1 v.2.1) else (laws_FnExactNoteWrite.j1 k i v.2.2 true x.f0 x.f1 v.1 v.2.1 v.1 v.2.1))))) else (some false)))) (fun k => ?_) ?_
      · rw [laws_FnExactNoteWrite.j0, if_neg (by decide)]
      · refine Ev.bind t (Ev.bind ex (Ev.if_pos rfl (Ev.bind (markHeat_ev x.f0 x.f1 1 (by omega) (by omega)) (Ev.if_neg (by show ¬ (1 + (x.f0.length : Int)) < 0; omega) (Ev.bind ev (Ev.if_pos rfl ?_))))))
        simp only [en]
        exact J1
    refine Ev.rounds ?_
    refine Ev.if_neg h ?_
    refine Ev.bind t (Ev.bind1 h1 (Ev.bind t (Ev.bind h2 (Ev.bind ev (Ev.if_pos rfl ?_)))))
    simp only [en]
    exact J0
end Go.Proofs.Ytobidghdmcobmaa.Pure
