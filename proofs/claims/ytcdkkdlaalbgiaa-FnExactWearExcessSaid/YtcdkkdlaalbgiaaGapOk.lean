/- The answer of the specification's WearGap: the gap of the good blocks. Conditions: those before each theorem. -/
import Derived.Test.YtcdkkdlaalbgiaaQ3
import Derived.Test.YtcdkkdlaalbgiaaQ3
import Derived.Test.YtcdkkdlaalbgiaaInOk
import Derived.Test.YtcdkkdlaalbgiaaXWearGap
namespace Go.Proofs.Ytcdkkdlaalbgiaa.Q
open Go.RowKit Go.Proofs.YtcdkkdlaalbgiaaW.PrintWords
set_option linter.unusedVariables false
theorem counted_loop (er : List Int) (hl : (er.length : Int) < 9223372036854775807) (d : Nat) : ∀ i : Nat, i ≤ er.length → er.length - i = d → Ev (fun k => spec_l12Counted.l0 k er i) (allIn (er.drop i) 0 1000) := by
  induction d with
  | zero =>
    intro i h1 h2
    rw [List.drop_of_length_le (by omega)]
    refine Ev.step (f := fun _ => some true) (fun k => ?_) (Ev.now _)
    rw [spec_l12Counted.l0, if_neg (by omega)]
  | succ d ih =>
    intro i h1 h2
    have hi : i < er.length := by omega
    rw [List.drop_eq_getElem_cons hi]
    have hb := rd_get er i hi
    revert hb
    generalize er[i]'hi = b
    intro hb
    have ei : wrap64 ((i : Int) + 1) = ((i + 1 : Nat) : Int) := by unfold wrap64; omega
    by_cases hin : 0 ≤ b ∧ b ≤ 1000
    · have e1 : allIn (b :: er.drop (i + 1)) 0 1000 = allIn (er.drop (i + 1)) 0 1000 := by
        unfold allIn
        rw [List.all_cons, decide_eq_true hin, Bool.true_and]
      rw [e1]
      refine Ev.step (fun k => ?_) (ih (i + 1) (by omega) (by omega))
      rw [spec_l12Counted.l0, if_pos (by omega), if_pos (by omega), hb, l00In_eq, decide_eq_true hin, Option.bind_some, if_pos rfl, ei]
    · have e1 : allIn (b :: er.drop (i + 1)) 0 1000 = false := by
        unfold allIn
        rw [List.all_cons, decide_eq_false hin, Bool.false_and]
      rw [e1]
      refine Ev.step (f := fun _ => some false) (fun k => ?_) (Ev.now _)
      rw [spec_l12Counted.l0, if_pos (by omega), if_pos (by omega), hb, l00In_eq, decide_eq_false hin, Option.bind_some, if_neg (by decide)]
theorem counted_ev (er : List Int) (hl : (er.length : Int) < 9223372036854775807) : Ev (fun k => spec_l12Counted.f k er) (allIn er 0 1000) := by
  have h := counted_loop er hl er.length 0 (by omega) (by omega)
  rw [List.drop_zero] at h
  exact h
theorem l12Good_eq (bad : List Bool) (i : Int) (h : 0 ≤ i) : spec_l12Good.f bad i = some (goodB bad i) := by
  unfold spec_l12Good.f goodB
  by_cases c : i ≥ (bad.length : Int)
  · rw [if_pos c, decide_eq_true c, Bool.true_or]
  · rw [if_neg c, if_pos h, if_pos (by omega), decide_eq_false c, Bool.false_or]
/-- One more good block, for the least and the greatest count. -/
def extS (er : List Int) (s : Int × Int × Bool) (b : Int) : Int × Int × Bool :=
  (if s.2.2 = true then (if rd er b < s.1 then rd er b else s.1) else rd er b, if s.2.2 = true then (if rd er b > s.2.1 then rd er b else s.2.1) else rd er b, true)
theorem j1_eq (k : Nat) (er : List Int) (bad : List Bool) (lo hi : Int) (fd : Bool) (i : Nat) (t : Bool) (h : (i : Int) < er.length) (hl : (er.length : Int) < 9223372036854775807) :
    spec_l12Extremes.j1 (k + 1) er bad lo hi fd i t = spec_l12Extremes.l0 k er bad (if t = true then rd er i else lo) (if fd = true then (if rd er i > hi then rd er i else hi) else rd er i) true ((i + 1 : Nat) : Int) := by
  have ei : wrap64 ((i : Int) + 1) = ((i + 1 : Nat) : Int) := by unfold wrap64; omega
  have h0 : (0 : Int) ≤ i := by omega
  rw [spec_l12Extremes.j1, ei]
  cases t with
  | true =>
    simp only [if_true, if_pos h0, if_pos h]
    cases fd with
    | true =>
      simp only [if_true]
      by_cases c : rd er i > hi
      · rw [if_pos c, if_pos c]
      · rw [if_neg c, if_neg c]
    | false => simp only [Bool.false_eq_true, if_false]
  | false =>
    simp only [Bool.false_eq_true, if_false, if_pos h0, if_pos h]
    cases fd with
    | true =>
      simp only [if_true]
      by_cases c : rd er i > hi
      · rw [if_pos c, if_pos c]
      · rw [if_neg c, if_neg c]
    | false => simp only [Bool.false_eq_true, if_false]
theorem ext_loop (er : List Int) (bad : List Bool) (hl : (er.length : Int) < 9223372036854775807) (d : Nat) : ∀ (i : Nat) (s : Int × Int × Bool), i ≤ er.length → er.length - i = d →
    Ev (fun k => spec_l12Extremes.l0 k er bad s.1 s.2.1 s.2.2 i) ((goodFrom bad d i).foldl (extS er) s) := by
  induction d with
  | zero =>
    intro i s h1 h2
    refine Ev.step (f := fun _ => some s) (fun k => ?_) (Ev.now _)
    rw [spec_l12Extremes.l0, if_neg (by omega)]
  | succ d ih =>
    intro i s h1 h2
    have ei : wrap64 ((i : Int) + 1) = ((i + 1 : Nat) : Int) := by unfold wrap64; omega
    have h0 : (0 : Int) ≤ i := by omega
    have hlt : (i : Int) < er.length := by omega
    unfold goodFrom
    by_cases c : goodB bad i = true
    · rw [if_pos c, List.foldl_cons]
      refine Ev.step (f := fun k => spec_l12Extremes.j1 k er bad s.1 s.2.1 s.2.2 i (if s.2.2 = true then decide (rd er i < s.1) else true)) (fun k => ?_) (Ev.step (fun k => j1_eq k er bad s.1 s.2.1 s.2.2 i _ hlt hl) ?_)
      · rw [spec_l12Extremes.l0, if_pos hlt, l12Good_eq bad i h0, c, Option.bind_some, if_pos rfl]
        cases s.2.2 with
        | true => rw [if_pos rfl, if_pos rfl, if_pos h0]
        | false => rw [if_neg (by decide), if_neg (by decide)]
      · have := ih (i + 1) (extS er s i) (by omega) (by omega)
        have e1 : (extS er s i).1 = if (if s.2.2 = true then decide (rd er i < s.1) else true) = true then rd er i else s.1 := by
          unfold extS
          cases s.2.2 with
          | true =>
            simp only [if_true, decide_eq_true_eq]
          | false => simp
        rw [e1] at this
        exact this
    · rw [if_neg c]
      rw [Bool.not_eq_true] at c
      refine Ev.step (fun k => ?_) (ih (i + 1) s (by omega) (by omega))
      rw [spec_l12Extremes.l0, if_pos hlt, l12Good_eq bad i h0, c, Option.bind_some, if_neg (by decide), ei]
/-- The two best ones and the two extremes go together. -/
theorem ext_best (er : List Int) : ∀ (bs : List Int) (a c : Int) (s : Int × Int × Bool), (∀ b ∈ bs, 0 ≤ b) → (s.2.2 = true → 0 ≤ a ∧ 0 ≤ c ∧ s.1 = rd er a ∧ s.2.1 = rd er c) → (s.2.2 = false → a = -1 ∧ c = -1) →
    (bs.foldl (extS er) s).2.2 = (s.2.2 || !bs.isEmpty) ∧ ((s.2.2 || !bs.isEmpty) = true → (bs.foldl (extS er) s).1 = rd er (bs.foldl (bstep ltB er) a) ∧ (bs.foldl (extS er) s).2.1 = rd er (bs.foldl (bstep gtB er) c))
  | [], a, c, s, _, h1, h2 => by
    refine ⟨by simp, fun h => ?_⟩
    have := h1 (by simpa using h)
    exact ⟨this.2.2.1, this.2.2.2⟩
  | b :: bs, a, c, s, hb, h1, h2 => by
    have h0 : 0 ≤ b := hb b (List.mem_cons_self ..)
    have key : 0 ≤ bstep ltB er a b ∧ 0 ≤ bstep gtB er c b ∧ (extS er s b).1 = rd er (bstep ltB er a b) ∧ (extS er s b).2.1 = rd er (bstep gtB er c b) := by
      cases hs : s.2.2 with
      | false =>
        obtain ⟨rfl, rfl⟩ := h2 hs
        unfold extS bstep
        simp [hs, h0]
      | true =>
        obtain ⟨ha, hc, e1, e2⟩ := h1 hs
        unfold extS bstep ltB gtB
        simp only [hs, e1, e2, if_true, decide_eq_true_eq]
        rw [if_neg (by omega : ¬ a < 0), if_neg (by omega : ¬ c < 0)]
        refine ⟨?_, ?_, ?_, ?_⟩
        · split
          · omega
          · split
            · split <;> omega
            · omega
        · split
          · omega
          · split
            · split <;> omega
            · omega
        · split
          · rfl
          · split
            · rename_i heq
              split
              · exact heq.symm
              · rfl
            · rfl
        · split
          · rfl
          · split
            · rename_i heq
              split
              · exact heq.symm
              · rfl
            · rfl
    have ih := ext_best er bs (bstep ltB er a b) (bstep gtB er c b) (extS er s b) (fun x hx => hb x (List.mem_cons_of_mem _ hx)) (fun _ => key) (fun h => absurd h (by simp [extS]))
    have e : (extS er s b).2.2 = true := rfl
    rw [e] at ih
    refine ⟨?_, fun _ => ?_⟩
    · rw [List.foldl_cons, ih.1]; simp
    · rw [List.foldl_cons, List.foldl_cons, List.foldl_cons]
      exact ih.2 (by simp)
theorem gap_ev (er : List Int) (bad : List Bool) (hl : (er.length : Int) < 9223372036854775807) : Ev (fun k => spec_WearGap.f k er bad) (gapOf er bad) := by
  unfold spec_WearGap.f gapOf
  refine Ev.bind (counted_ev er hl) ?_
  have hx := ext_loop er bad hl er.length 0 (0, 0, false) (by omega) (by omega)
  have hb := ext_best er (goodL er bad) (-1) (-1) (0, 0, false) (fun b h => (goodL_mem er bad b h).1) (fun h => absurd h (by simp)) (fun _ => ⟨rfl, rfl⟩)
  have hx2 : Ev (fun k => spec_l12Extremes.f k er bad) ((goodL er bad).foldl (extS er) (0, 0, false)) := hx
  by_cases c : allIn er 0 1000 = true
  · refine Ev.if_pos c (Ev.bind hx2 ?_)
    by_cases c2 : goodL er bad = []
    · rw [if_pos c2, c2]
      exact ⟨0, fun _ _ => by simp [wrap64]⟩
    · rw [if_neg c2, if_pos c]
      have h3 : ((false : Bool) || !(goodL er bad).isEmpty) = true := by
        cases hg : goodL er bad with
        | nil => exact absurd hg c2
        | cons _ _ => rfl
      have := hb.2 h3
      rw [this.1, this.2]
      exact Ev.now _
  · refine Ev.if_neg c ?_
    by_cases c2 : goodL er bad = []
    · rw [if_pos c2]; exact Ev.now _
    · rw [if_neg c2, if_neg c]; exact Ev.now _
end Go.Proofs.Ytcdkkdlaalbgiaa.Q
