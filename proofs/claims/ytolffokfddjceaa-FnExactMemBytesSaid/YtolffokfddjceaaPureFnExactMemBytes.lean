/- The law FnExactMemBytes, as a statement over numbers and lists. No condition. -/
import Derived.Test.YtolffokfddjceaaSayFnExactMemBytes
import Derived.Test.YtolffokfddjceaaRunOk
import Derived.Test.YtolffokfddjceaaRecS
import Derived.Test.YtolffokfddjceaaXPutAll
namespace Go.Proofs.Ytolffokfddjceaa.Pure
open Go.RowKit Go.Proofs.Ytolffokfddjceaa.Q Go.Proofs.YtolffokfddjceaaW.PrintWords
set_option linter.unusedVariables false
theorem run_ok (l : List S26) : ∀ (d i : Nat), runFrom l d i = true → ∀ j : Nat, i ≤ j → j < i + d → okX (rd_T26 l (j : Int)) = true
  | 0, i, _, j, h1, h2 => by omega
  | d + 1, i, h, j, h1, h2 => by
    unfold runFrom at h
    simp only [Bool.and_eq_true] at h
    by_cases e : j = i
    · subst e
      exact h.1.1
    · exact run_ok l d (i + 1) h.2 j (by omega) (by omega)
theorem size_nil {s : ByteArray} (h : (s.toList == []) = true) : s.size = 0 := by
  have h1 := data_length s
  rw [← ba_toList, beq_iff_eq.1 h] at h1
  simpa using h1.symm
theorem ok_short (x : S26) (h : okX x = true) : shortX x = true := by
  unfold okX okRec okKey at h
  simp only [Bool.and_eq_true, decide_eq_true_eq] at h
  obtain ⟨h1, h2, h3⟩ := h
  unfold shortX recData
  refine decide_eq_true ⟨by omega, ?_⟩
  by_cases c1 : x.f2 = 1
  · rw [if_pos c1] at h3
    simp only [Bool.and_eq_true, decide_eq_true_eq] at h3
    rw [if_neg (by omega)]
    omega
  · rw [if_neg c1] at h3
    by_cases c2 : x.f2 = 2
    · rw [if_pos c2] at h3
      simp only [Bool.and_eq_true] at h3
      rw [if_neg (by omega), size_nil h3.1]
      omega
    · rw [if_neg c2] at h3
      by_cases c3 : x.f2 = 3
      · rw [if_pos c3] at h3 ⊢
        simp only [Bool.and_eq_true, decide_eq_true_eq] at h3
        omega
      · rw [if_neg c3] at h3
        cases h3
theorem mem_loop (l : List S26) (hl : l.length ≤ 24) (hs : ∀ x ∈ l, shortX x = true) (sm : Ev (fun k => spec_l18Valid.f k l) true) (d : Nat) : ∀ (i n : Nat), i ≤ l.length → l.length - i = d → n ≤ i * 3000000 → Ev (fun k => spec_MemBytes.l0 k l (n : Int) (i : Int)) ((n : Int) + ((putL (l.drop i)).length : Int)) := by
  induction d with
  | zero =>
    intro i n h1 h2 h3
    rw [List.drop_of_length_le (by omega)]
    refine Ev.step (f := fun _ => some (n : Int)) (fun k => ?_) ?_
    · rw [spec_MemBytes.l0, if_neg (by omega)]
    · have := Ev.now (n : Int)
      simpa [putL] using this
  | succ d ih =>
    intro i n h1 h2 h3
    have hi : i < l.length := by omega
    have hx := hs l[i] (List.getElem_mem hi)
    obtain ⟨q1, q2⟩ := of_decide_eq_true hx
    have hp : Ev (fun k => spec_l17Put.f k l[i].f0 l[i].f1 l[i].f2 l[i].f3 l[i].f4) (putX l[i]) := l17Put_ev l[i].f0 l[i].f1 l[i].f2 l[i].f3 l[i].f4 (by omega) (by omega)
    have hz := putX_size l[i] hx
    have e2 : putL (l.drop i) = (putX l[i]).data.toList ++ putL (l.drop (i + 1)) := by
      unfold putL
      rw [List.drop_eq_getElem_cons hi, List.map_cons, List.flatten_cons]
    have ihh := ih (i + 1) (n + (putX l[i]).size) (by omega) (by omega) (by omega)
    rw [e2, List.length_append, data_length]
    generalize putX l[i] = y at hp hz ihh ⊢
    generalize (putL (l.drop (i + 1))).length = m at ihh ⊢
    have e1 : ((n + y.size : Nat) : Int) + (m : Int) = (n : Int) + ((y.size + m : Nat) : Int) := by omega
    rw [e1] at ihh
    have b1 : (i : Int) < (l.length : Int) := by omega
    have b2 : (0 : Int) ≤ (i : Int) := by omega
    have en : wrap64 ((n : Int) + (y.size : Int)) = ((n + y.size : Nat) : Int) := by unfold wrap64; omega
    have ei : wrap64 ((i : Int) + 1) = ((i + 1 : Nat) : Int) := by unfold wrap64; omega
    have inner : Ev (fun k => spec_MemBytes.l0 k l (wrap64 ((n : Int) + (y.size : Int))) ((i + 1 : Nat) : Int)) ((n : Int) + ((y.size + m : Nat) : Int)) := by rw [en]; exact ihh
    refine Ev.step (f := fun k => (spec_l18Valid.f k l).bind fun t => if t = true then ((spec_l17Put.f k l[i].f0 l[i].f1 l[i].f2 l[i].f3 l[i].f4).bind fun t2 => spec_MemBytes.l0 k l (wrap64 ((n : Int) + (t2.size : Int))) ((i + 1 : Nat) : Int)) else some (n : Int)) (fun k => ?_) (Ev.bind sm (Ev.if_pos rfl (Ev.bind hp inner)))
    rw [spec_MemBytes.l0, if_pos b1, ei, rdI_get l i hi]
    simp only [if_pos b2]
theorem FnExactMemBytes : laws_FnExactMemBytes.Pure := by
  intro l hg
  obtain ⟨hl, hb, he⟩ : l.length ≤ maxLen ∧ l.length * 64 ≤ 140737488351232 ∧ ∀ y ∈ l, _ := hg
  have hs : ∀ x ∈ l, small x := by
    intro x hx
    obtain ⟨g0, _, _, g3, g4⟩ := he x hx
    exact ⟨g0, g3, g4⟩
  have hw : ∀ x ∈ l.map toR, (Lit.int .i64 x.f1).wf = true := by
    intro x hx
    obtain ⟨y, hy, rfl⟩ := List.mem_map.1 hx
    exact (he y hy).2.1
  obtain ⟨r, e, a, b, c⟩ := szRecordS_ev l hs (by omega) 1048576 (by omega) (by omega)
  unfold laws_FnExactMemBytes.f
  refine Ev.rounds ?_
  refine Ev.bind e ?_
  by_cases h : r < 0
  · exact Ev.if_pos h (Ev.now _)
  refine Ev.if_neg h ?_
  have hn := c (by omega)
  have hlen : ((l.map toR).length : Int) ≤ 1000000000 := by rw [List.length_map]; omega
  have p1 := l17Run_ev (l.map toR) hlen
  have p2 := implRun_eq (l.map toR) hlen hw
  have t := toRecordS_ev l (by omega)
  have im : impl_ValidMem.f (l.map toR) = some (decide (((l.map toR).length : Int) ≤ 24) && runFrom (l.map toR) (l.map toR).length 0) := by
    unfold impl_ValidMem.f
    by_cases c24 : ((l.map toR).length : Int) ≤ 24
    · rw [if_pos c24, p2, decide_eq_true c24, Bool.true_and]
      rfl
    · rw [if_neg c24, decide_eq_false c24, Bool.false_and]
  have sm : Ev (fun k => spec_l18Valid.f k (l.map toR)) (decide (((l.map toR).length : Int) ≤ 24) && runFrom (l.map toR) (l.map toR).length 0) := by
    unfold spec_l18Valid.f
    by_cases c24 : ((l.map toR).length : Int) ≤ 24
    · rw [decide_eq_true c24, Bool.true_and]
      exact Ev.if_pos c24 (Ev.bind p1 (Ev.now _))
    · rw [decide_eq_false c24, Bool.false_and]
      exact Ev.if_neg c24 (Ev.now _)
  have ex := eqRecordS_self (l.map toR) (by omega)
  obtain ⟨g, q1, q2⟩ : ∃ g : Int, Ev (fun k => spec_MemBytes.f k (l.map toR)) g ∧ impl_MemBytes.f (l.map toR) = some g := by
    unfold spec_MemBytes.f impl_MemBytes.f
    cases hv : (decide (((l.map toR).length : Int) ≤ 24) && runFrom (l.map toR) (l.map toR).length 0) with
    | true =>
      rw [hv] at im sm
      simp only [Bool.and_eq_true, decide_eq_true_eq] at hv
      have hs2 : ∀ x ∈ l.map toR, shortX x = true := by
        intro x hx
        obtain ⟨j, hj, rfl⟩ := List.mem_iff_getElem.1 hx
        have hok := run_ok (l.map toR) (l.map toR).length 0 hv.2 j (by omega) (by omega)
        rw [rdI_get _ _ hj] at hok
        exact ok_short _ hok
      have s0 := mem_loop (l.map toR) (by omega) hs2 sm (l.map toR).length 0 0 (by omega) (by omega) (by omega)
      refine ⟨((putL (l.map toR)).length : Int), ?_, ?_⟩
      · rw [List.drop_zero] at s0
        simpa using s0
      · rw [im, Option.bind_some, if_pos rfl]
        unfold impl_putAll.f
        rw [if_pos (by omega), if_pos (List.all_eq_true.2 hs2), Option.bind_some]
        show some ((((putL (l.map toR)).toArray.size : Nat) : Int)) = _
        rw [List.size_toArray]
    | false =>
      rw [hv] at im sm
      refine ⟨0, ?_, ?_⟩
      · by_cases hz : (0 : Int) < ((l.map toR).length : Int)
        · refine Ev.step (f := fun k => (spec_l18Valid.f k (l.map toR)).bind fun t => if t = true then (if (0 : Int) ≤ 0 then ((spec_l17Put.f k (rd_T26 (l.map toR) 0).f0 (rd_T26 (l.map toR) 0).f1 (rd_T26 (l.map toR) 0).f2 (rd_T26 (l.map toR) 0).f3 (rd_T26 (l.map toR) 0).f4).bind fun t2 => spec_MemBytes.l0 k (l.map toR) (wrap64 (0 + (t2.size : Int))) (wrap64 (0 + 1))) else none) else some 0) (fun k => ?_) (Ev.bind sm (Ev.if_neg (by decide) (Ev.now _)))
          rw [spec_MemBytes.l0, if_pos hz]
        · refine Ev.step (f := fun _ => some 0) (fun k => ?_) (Ev.now _)
          rw [spec_MemBytes.l0, if_neg hz]
      · rw [im, Option.bind_some, if_neg (by decide)]
  exact Ev.bind t (Ev.bind q1 (Ev.bind t (Ev.bind1 q2 (Ev.if_pos rfl (Ev.bind t (Ev.bind ex (Ev.if_pos rfl (Ev.now _))))))))
end Go.Proofs.Ytolffokfddjceaa.Pure
