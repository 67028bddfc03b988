/- The law FnExactSeqsOf, as a statement over numbers and lists. No condition. -/
import Derived.Test.YtolffokfddjceaaSayFnExactSeqsOf
import Derived.Test.YtolffokfddjceaaRunOk
import Derived.Test.YtolffokfddjceaaRecS
namespace Go.Proofs.Ytolffokfddjceaa.Pure
open Go.RowKit Go.Proofs.Ytolffokfddjceaa.Q Go.Proofs.YtolffokfddjceaaW.PrintWords
set_option linter.unusedVariables false
def mxI (a b : Int) : Int := if a > b then a else b
theorem mx_eq (a b : Int) : mx a b = mxI a b := by
  unfold mx mxI
  by_cases h : a < b
  · rw [if_pos h, if_neg (by omega)]
  · rw [if_neg h]
    split <;> omega
theorem l00Max_eq (a b : Int) : spec_l00Max.f a b = some (mxI a b) := by
  unfold spec_l00Max.f mxI
  by_cases h : a > b
  · rw [if_pos h, if_pos h]
  · rw [if_neg h, if_neg h]
def seqF (l : List S26) : Nat → Nat → Int → Int → Int × Int
  | 0, _, lo, hi => (lo, hi)
  | d + 1, i, lo, hi => seqF l d (i + 1) (if i = 0 then (rd_T26 l (i : Int)).f1 else if (rd_T26 l (i : Int)).f1 < lo then (rd_T26 l (i : Int)).f1 else lo) (mxI hi (rd_T26 l (i : Int)).f1)
theorem run_ok (l : List S26) : ∀ (d i : Nat), runFrom l d i = true → ∀ j : Nat, i ≤ j → j < i + d → okX (rd_T26 l (j : Int)) = true
  | 0, i, _, j, h1, h2 => by omega
  | d + 1, i, h, j, h1, h2 => by
    unfold runFrom at h
    simp only [Bool.and_eq_true] at h
    by_cases e : j = i
    · subst e
      exact h.1.1
    · exact run_ok l d (i + 1) h.2 j (by omega) (by omega)
theorem ok_seq (x : S26) (h : okX x = true) : 1 ≤ x.f1 := by
  unfold okX okRec at h
  simp only [Bool.and_eq_true, decide_eq_true_eq] at h
  omega
theorem spec_loop (l : List S26) (hl : (l.length : Int) ≤ 1000000000) (hr : runFrom l l.length 0 = true) (d : Nat) : ∀ (i : Nat) (lo hi : Int), i ≤ l.length → l.length - i = d → (lo = 0 ↔ i = 0) → Ev (fun k => spec_l18Seqs.l0 k l lo hi i) (seqF l d i lo hi) := by
  induction d with
  | zero =>
    intro i lo hi h1 h2 h3
    refine Ev.step (f := fun _ => some (lo, hi)) (fun k => ?_) (Ev.now _)
    rw [spec_l18Seqs.l0, if_neg (by omega)]
  | succ d ih =>
    intro i lo hi h1 h2 h3
    have ei : wrap64 ((i : Int) + 1) = ((i + 1 : Nat) : Int) := by unfold wrap64; omega
    have hx := ok_seq _ (run_ok l l.length 0 hr i (by omega) (by omega))
    unfold seqF
    by_cases c : i = 0
    · rw [if_pos c]
      refine Ev.step (fun k => ?_) (ih (i + 1) _ _ (by omega) (by omega) (by omega))
      rw [spec_l18Seqs.l0, if_pos (by omega), if_pos (h3.2 c), if_pos (by omega), l00Max_eq, Option.bind_some, ei]
    · have c2 : ¬ lo = 0 := fun h => c (h3.1 h)
      rw [if_neg c]
      by_cases c3 : (rd_T26 l (i : Int)).f1 < lo
      · rw [if_pos c3]
        refine Ev.step (fun k => ?_) (ih (i + 1) _ _ (by omega) (by omega) (by omega))
        rw [spec_l18Seqs.l0, if_pos (by omega), if_neg c2, if_pos (by omega), if_pos c3, l00Max_eq, Option.bind_some, ei]
      · rw [if_neg c3]
        refine Ev.step (fun k => ?_) (ih (i + 1) _ _ (by omega) (by omega) (by omega))
        rw [spec_l18Seqs.l0, if_pos (by omega), if_neg c2, if_pos (by omega), if_neg c3, l00Max_eq, Option.bind_some, ei]
theorem impl_loop (l : List S26) (hl : (l.length : Int) ≤ 1000000000) (d : Nat) : ∀ (i : Nat) (lo hi : Int), i ≤ l.length → l.length - i = d → Ev (fun k => impl_seqsOf.l0 k lo hi l (l.length : Int) i) (seqF l d i lo hi) := by
  induction d with
  | zero =>
    intro i lo hi h1 h2
    refine Ev.step (f := fun _ => some (lo, hi)) (fun k => ?_) (Ev.now _)
    rw [impl_seqsOf.l0, if_neg (by omega)]
  | succ d ih =>
    intro i lo hi h1 h2
    have ei : wrap64 ((i : Int) + 1) = ((i + 1 : Nat) : Int) := by unfold wrap64; omega
    unfold seqF
    by_cases c : i = 0
    · rw [if_pos c]
      refine Ev.step (fun k => ?_) (ih (i + 1) _ _ (by omega) (by omega))
      rw [impl_seqsOf.l0, if_pos (by omega), if_pos (by omega), if_pos (by omega), if_pos (by omega), ei, mx_eq]
    · rw [if_neg c]
      by_cases c3 : (rd_T26 l (i : Int)).f1 < lo
      · rw [if_pos c3]
        refine Ev.step (fun k => ?_) (ih (i + 1) _ _ (by omega) (by omega))
        rw [impl_seqsOf.l0, if_pos (by omega), if_pos (by omega), if_pos (by omega), if_neg (by omega), if_pos c3, ei, mx_eq]
      · rw [if_neg c3]
        refine Ev.step (fun k => ?_) (ih (i + 1) _ _ (by omega) (by omega))
        rw [impl_seqsOf.l0, if_pos (by omega), if_pos (by omega), if_pos (by omega), if_neg (by omega), if_neg c3, ei, mx_eq]
theorem FnExactSeqsOf : laws_FnExactSeqsOf.Pure := by
  intro l hg
  obtain ⟨hl, hb, he⟩ : l.length ≤ maxLen ∧ l.length * 64 ≤ 140737488351232 ∧ ∀ y ∈ l, _ := hg
  have hs : ∀ x ∈ l, small x := by
    intro x hx
    obtain ⟨g0, _, _, g3, g4⟩ := he x hx
    exact ⟨g0, g3, g4⟩
  have hw : ∀ x ∈ l.map toR, (Lit.int .i64 x.f1).wf = true := by
    intro x hx
    obtain ⟨y, hy, rfl⟩ := List.mem_map.1 hx
    exact (he y hy).2.1
  obtain ⟨r, e, a, b, c⟩ := szRecordS_ev l hs (by omega) 1048576 (by omega) (by omega)
  unfold laws_FnExactSeqsOf.f
  refine Ev.rounds ?_
  refine Ev.bind e ?_
  by_cases h : r < 0
  · exact Ev.if_pos h (Ev.now _)
  refine Ev.if_neg h ?_
  have hn := c (by omega)
  have hlen : ((l.map toR).length : Int) ≤ 1000000000 := by rw [List.length_map]; omega
  have p1 := l17Run_ev (l.map toR) hlen
  have p2 := implRun_eq (l.map toR) hlen hw
  have t := toRecordS_ev l (by omega)
  obtain ⟨v, q1, q2⟩ : ∃ v, Ev (fun k => spec_SeqsOf.f k (l.map toR)) v ∧ Ev (fun k => impl_SeqsOf.f k (l.map toR)) v := by
    have im : impl_ValidMem.f (l.map toR) = some (decide (((l.map toR).length : Int) ≤ 24) && runFrom (l.map toR) (l.map toR).length 0) := by
      unfold impl_ValidMem.f
      by_cases c24 : ((l.map toR).length : Int) ≤ 24
      · rw [if_pos c24, p2, decide_eq_true c24, Bool.true_and]
        rfl
      · rw [if_neg c24, decide_eq_false c24, Bool.false_and]
    have sm : Ev (fun k => spec_l18Valid.f k (l.map toR)) (decide (((l.map toR).length : Int) ≤ 24) && runFrom (l.map toR) (l.map toR).length 0) := by
      unfold spec_l18Valid.f
      by_cases c24 : ((l.map toR).length : Int) ≤ 24
      · rw [decide_eq_true c24, Bool.true_and]
        exact Ev.if_pos c24 (Ev.bind p1 (Ev.now _))
      · rw [decide_eq_false c24, Bool.false_and]
        exact Ev.if_neg c24 (Ev.now _)
    unfold spec_SeqsOf.f impl_SeqsOf.f
    cases hv : (decide (((l.map toR).length : Int) ≤ 24) && runFrom (l.map toR) (l.map toR).length 0) with
    | true =>
      rw [hv] at im sm
      have hr : runFrom (l.map toR) (l.map toR).length 0 = true := by
        simp only [Bool.and_eq_true] at hv
        exact hv.2
      have s0 := spec_loop (l.map toR) hlen hr (l.map toR).length 0 0 0 (by omega) (by omega) (by simp)
      have i0 := impl_loop (l.map toR) hlen (l.map toR).length 0 0 0 (by omega) (by omega)
      exact ⟨_, Ev.bind sm (Ev.if_pos rfl (Ev.bind s0 (Ev.now _))), Ev.bind1 im (Ev.if_pos rfl (Ev.bind i0 (Ev.now _)))⟩
    | false =>
      rw [hv] at im sm
      exact ⟨(0, 0), Ev.bind sm (Ev.if_neg (by decide) (Ev.now _)), Ev.bind1 im (Ev.if_neg (by decide) (Ev.now _))⟩
  refine Ev.bind t (Ev.bind q1 (Ev.bind t (Ev.bind q2 (Ev.if_pos rfl ?_))))
  refine Ev.step (f := fun k => ((laws_toRecordS.f k l).bind fun t371 => ((laws_eqRecordS.f k (l.map toR) t371).bind fun t374 => (if t374 = true then (some true) else (some false))))) (fun k => ?_) (Ev.bind t (Ev.bind (eqRecordS_self _ (by omega)) (Ev.if_pos rfl (Ev.now _))))
  rw [laws_FnExactSeqsOf.j0, if_neg (by simp)]
end Go.Proofs.Ytolffokfddjceaa.Pure
