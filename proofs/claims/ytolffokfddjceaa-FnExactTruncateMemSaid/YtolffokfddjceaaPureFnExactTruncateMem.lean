/- The law FnExactTruncateMem, as a statement over numbers and lists. No condition. -/
import Derived.Test.YtolffokfddjceaaSayFnExactTruncateMem
import Derived.Test.YtolffokfddjceaaMarkRec
import Derived.Test.YtolffokfddjceaaRunOk
import Derived.Test.YtolffokfddjceaaRecS
namespace Go.Proofs.Ytolffokfddjceaa.Pure
open Go.RowKit Go.Proofs.Ytolffokfddjceaa.Q Go.Proofs.YtolffokfddjceaaW.PrintWords
set_option linter.unusedVariables false
theorem trunc_loop (l : List S26) (s : Int) (hl : (l.length : Int) ≤ 1000000000) (d : Nat) : ∀ (i : Nat) (acc : List S26), i ≤ l.length → l.length - i = d → acc.length ≤ i → Ev (fun k => spec_TruncateMem.l0 k l s acc i) (acc ++ (l.drop i).filter (fun x => !decide (x.f1 ≤ s)), 0) := by
  induction d with
  | zero =>
    intro i acc h1 h2 h3
    rw [List.drop_of_length_le (by omega), List.filter_nil, List.append_nil]
    refine Ev.step (f := fun _ => some (acc, 0)) (fun k => ?_) (Ev.now _)
    rw [spec_TruncateMem.l0, if_neg (by omega)]
  | succ d ih =>
    intro i acc h1 h2 h3
    have hi : i < l.length := by omega
    have ei : wrap64 ((i : Int) + 1) = ((i + 1 : Nat) : Int) := by unfold wrap64; omega
    rw [List.drop_eq_getElem_cons hi, List.filter_cons, ← rdI_get l i hi]
    by_cases c1 : (rd_T26 l (i : Int)).f1 ≤ s
    · rw [if_neg (by simp [c1])]
      refine Ev.step (fun k => ?_) (ih (i + 1) acc (by omega) (by omega) (by omega))
      rw [spec_TruncateMem.l0, if_pos (by omega), if_pos (by omega), if_neg (by omega), ei]
    · rw [if_pos (by simp; omega)]
      have ihh := ih (i + 1) (acc ++ [rd_T26 l (i : Int)]) (by omega) (by omega) (by simp; omega)
      rw [List.append_assoc, List.singleton_append] at ihh
      refine Ev.step (fun k => ?_) ihh
      rw [spec_TruncateMem.l0, if_pos (by omega), if_pos (by omega), if_pos (by omega), if_pos (by omega), ei]
theorem FnExactTruncateMem : laws_FnExactTruncateMem.Pure := by
  intro l seq hg _
  obtain ⟨hl, hb, he⟩ : l.length ≤ maxLen ∧ l.length * 64 ≤ 140737488351232 ∧ ∀ y ∈ l, _ := hg
  have hs : ∀ x ∈ l, small x := by
    intro x hx
    obtain ⟨g0, _, _, g3, g4⟩ := he x hx
    exact ⟨g0, g3, g4⟩
  have hw : ∀ x ∈ l.map toR, (Lit.int .i64 x.f1).wf = true := by
    intro x hx
    obtain ⟨y, hy, rfl⟩ := List.mem_map.1 hx
    exact (he y hy).2.1
  obtain ⟨r, e, a, b, c⟩ := szRecordS_ev l hs (by omega) 1048576 (by omega) (by omega)
  unfold laws_FnExactTruncateMem.f
  refine Ev.rounds ?_
  refine Ev.bind e ?_
  by_cases h : r < 0
  · exact Ev.if_pos h (Ev.now _)
  refine Ev.if_neg h ?_
  have hn := c (by omega)
  have hlen : ((l.map toR).length : Int) ≤ 1000000000 := by rw [List.length_map]; omega
  have p1 := l17Run_ev (l.map toR) hlen
  have p2 := implRun_eq (l.map toR) hlen hw
  have t := toRecordS_ev l (by omega)
  have im : impl_ValidMem.f (l.map toR) = some (decide (((l.map toR).length : Int) ≤ 24) && runFrom (l.map toR) (l.map toR).length 0) := by
    unfold impl_ValidMem.f
    by_cases c24 : ((l.map toR).length : Int) ≤ 24
    · rw [if_pos c24, p2, decide_eq_true c24, Bool.true_and]
      rfl
    · rw [if_neg c24, decide_eq_false c24, Bool.false_and]
  have sm : Ev (fun k => spec_l18Valid.f k (l.map toR)) (decide (((l.map toR).length : Int) ≤ 24) && runFrom (l.map toR) (l.map toR).length 0) := by
    unfold spec_l18Valid.f
    by_cases c24 : ((l.map toR).length : Int) ≤ 24
    · rw [decide_eq_true c24, Bool.true_and]
      exact Ev.if_pos c24 (Ev.bind p1 (Ev.now _))
    · rw [decide_eq_false c24, Bool.false_and]
      exact Ev.if_neg c24 (Ev.now _)
  obtain ⟨g, q1, q2, hgl⟩ : ∃ g : List S26 × Int, Ev (fun k => spec_TruncateMem.f k (l.map toR) seq) g ∧ impl_TruncateMem.f (l.map toR) seq = some g ∧ (g.1.length : Int) ≤ ((l.map toR).length : Int) := by
    unfold spec_TruncateMem.f impl_TruncateMem.f
    cases hv : (decide (((l.map toR).length : Int) ≤ 24) && runFrom (l.map toR) (l.map toR).length 0) with
    | true =>
      rw [hv] at im sm
      have s0 := trunc_loop (l.map toR) seq hlen (l.map toR).length 0 [] (by omega) (by omega) (by simp)
      rw [List.nil_append, List.drop_zero] at s0
      refine ⟨((l.map toR).filter (fun x => !decide (x.f1 ≤ seq)), 0), Ev.bind1 rfl (Ev.bind sm (Ev.if_pos rfl s0)), ?_, ?_⟩
      · rw [im, Option.bind_some, if_pos rfl, if_pos (by omega)]
      · have := List.length_filter_le (fun x : S26 => !decide (x.f1 ≤ seq)) (l.map toR)
        show ((((l.map toR).filter (fun x => !decide (x.f1 ≤ seq))).length : Nat) : Int) ≤ _
        omega
    | false =>
      rw [hv] at im sm
      refine ⟨([], 1), Ev.bind1 rfl (Ev.bind sm (Ev.if_neg (by decide) (Ev.now _))), ?_, ?_⟩
      · rw [im, Option.bind_some, if_neg (by decide)]
      · simp
  have hg1 : (g.1.length : Int) ≤ 1000000000 := by omega
  have n1 : (1 : Int) + 5 * (((l.map toR).length : Nat) : Int) ≤ 9223372036854775800 := by omega
  have n2 : (1 : Int) + 5 * ((g.1.length : Nat) : Int) ≤ 9223372036854775800 := by omega
  have mx := markRecordS_ev (l.map toR) 1 (by omega) n1
  have mg := markRecordS_ev g.1 1 (by omega) n2
  have hd := heldRecordS_ev g.1.length 1 (by omega) n2
  have eg := eqRecordS_self g.1 (by omega)
  have ex := eqRecordS_self (l.map toR) (by omega)
  have q0 : ¬ ((1 : Int) + 5 * (((l.map toR).length : Nat) : Int) < 0) := by omega
  have q3 : ¬ ((1 : Int) + 5 * ((g.1.length : Nat) : Int) < 0) := by omega
  have jj2 : Ev (fun k => laws_FnExactTruncateMem.j2 k (markedR 1 g.1.length) (1 + 5 * (g.1.length : Int)) (g.2 != g.2)) true := by
    refine Ev.step (f := fun k => (laws_heldRecordS.f k (markedR 1 g.1.length) 1).bind fun t => if t < 0 then some false else if t = 1 + 5 * (g.1.length : Int) then some true else some false) (fun k => ?_) (Ev.bind hd (Ev.if_neg q3 (Ev.if_pos rfl (Ev.now _))))
    rw [laws_FnExactTruncateMem.j2, if_neg (by simp)]
  have jj1 : Ev (fun k => laws_FnExactTruncateMem.j1 k l seq g.1 g.2 g.1 (g.2 != g.2)) true := by
    refine Ev.step (f := fun k => (laws_markRecordS.f k g.1 1).bind fun bt => (laws_heldRecordS.f k bt.2 1).bind fun t => if t < 0 then some false else if t = bt.1 then ((laws_toRecordS.f k l).bind fun t2 => (impl_TruncateMem.f t2 seq).bind fun b2 => (laws_eqRecordS.f k b2.1 g.1).bind fun t3 => if t3 = true then laws_FnExactTruncateMem.j2 k bt.2 bt.1 (b2.2 != g.2) else laws_FnExactTruncateMem.j2 k bt.2 bt.1 true) else some false) (fun k => ?_) (Ev.bind mg (Ev.bind hd (Ev.if_neg q3 (Ev.if_pos rfl (Ev.bind t (Ev.bind1 q2 (Ev.bind eg (Ev.if_pos rfl jj2))))))))
    rw [laws_FnExactTruncateMem.j1, if_neg (by simp)]
  refine Ev.bind t (Ev.bind q1 (Ev.bind t (Ev.bind1 q2 (Ev.bind eg (Ev.if_pos rfl ?_)))))
  refine Ev.step (f := fun k => (laws_toRecordS.f k l).bind fun t1 => (laws_eqRecordS.f k (l.map toR) t1).bind fun t2 => if t2 = true then ((laws_markRecordS.f k (l.map toR) 1).bind fun bt => if bt.1 < 0 then laws_FnExactTruncateMem.j1 k l seq g.1 g.2 g.1 true else (laws_eqRecordS.f k g.1 g.1).bind fun t3 => if t3 = true then laws_FnExactTruncateMem.j1 k l seq g.1 g.2 g.1 (g.2 != g.2) else laws_FnExactTruncateMem.j1 k l seq g.1 g.2 g.1 true) else some false) (fun k => ?_) (Ev.bind t (Ev.bind ex (Ev.if_pos rfl (Ev.bind mx (Ev.if_neg q0 (Ev.bind eg (Ev.if_pos rfl jj1)))))))
  rw [laws_FnExactTruncateMem.j0, if_neg (by simp)]
end Go.Proofs.Ytolffokfddjceaa.Pure
