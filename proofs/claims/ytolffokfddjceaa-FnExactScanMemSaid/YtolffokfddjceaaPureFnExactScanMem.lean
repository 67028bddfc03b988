/- The law FnExactScanMem, as a statement over numbers and lists. No condition. -/
import Derived.Test.YtolffokfddjceaaSayFnExactScanMem
import Derived.Test.YtolffokfddjceaaMarkRec
import Derived.Test.YtolffokfddjceaaRunOk
import Derived.Test.YtolffokfddjceaaRecS
namespace Go.Proofs.Ytolffokfddjceaa.Pure
open Go.RowKit Go.Proofs.Ytolffokfddjceaa.Q Go.Proofs.YtolffokfddjceaaW.PrintWords
set_option linter.unusedVariables false
theorem bl_trans : ∀ a b c : List UInt8, Op.bytesLess a b = true → Op.bytesLess b c = true → Op.bytesLess a c = true
  | _, [], _, h, _ => by simp [Op.bytesLess] at h
  | _, _ :: _, [], _, h => by simp [Op.bytesLess] at h
  | [], _ :: _, _ :: _, _, _ => rfl
  | x :: a, y :: b, z :: c, h1, h2 => by
    simp only [Op.bytesLess, Bool.or_eq_true, Bool.and_eq_true, decide_eq_true_eq, beq_iff_eq, UInt8.lt_iff_toNat_lt, ← UInt8.toNat_inj] at h1 h2 ⊢
    rcases h1 with h1 | ⟨h1, k1⟩
    · rcases h2 with h2 | ⟨h2, k2⟩
      · left; omega
      · left; omega
    · rcases h2 with h2 | ⟨h2, k2⟩
      · left; omega
      · right; exact ⟨by omega, bl_trans a b c k1 k2⟩
theorem bl_le_lt (a b c : List UInt8) (h1 : Op.bytesLess a b = false) (h2 : Op.bytesLess a c = true) : Op.bytesLess b c = true := by
  have t := StrCmp.bytesLess_total a b
  rw [h1, Bool.false_or] at t
  by_cases e : a = b
  · rw [← e]; exact h2
  · have hne : (a == b) = false := by rw [beq_eq_false_iff_ne]; exact e
    rw [hne] at t
    exact bl_trans b a c t.symm h2
theorem run_ok (l : List S26) : ∀ (d i : Nat), runFrom l d i = true → ∀ j : Nat, i ≤ j → j < i + d → okX (rd_T26 l (j : Int)) = true
  | 0, i, _, j, h1, h2 => by omega
  | d + 1, i, h, j, h1, h2 => by
    unfold runFrom at h
    simp only [Bool.and_eq_true] at h
    by_cases e : j = i
    · subst e
      exact h.1.1
    · exact run_ok l d (i + 1) h.2 j (by omega) (by omega)
/-- Valid bounds. -/
def okB (low high : ByteArray) : Bool := (low.toList == [] || okKey low) && (high.toList == [] || (okKey high && Op.bytesLess low.toList high.toList))
theorem specB_eq (low high : ByteArray) : spec_l18Bounds.f low high = some (okB low high) := by
  unfold spec_l18Bounds.f okB
  simp only [l17Key_eq, Option.bind_some]
  by_cases h1 : low.toList = [] <;> by_cases h2 : high.toList = [] <;> cases h3 : okKey low <;> cases h4 : okKey high <;> simp [h1, h2]
theorem implB_eq (low high : ByteArray) : impl_boundsOk.f low high = some (okB low high) := by
  unfold impl_boundsOk.f okB
  simp only [implKey_eq, Option.bind_some]
  by_cases h1 : low.toList = [] <;> by_cases h2 : high.toList = [] <;> cases h3 : okKey low <;> cases h4 : okKey high <;> simp [h1, h2]
/-- The specification's test whether a record meets a range. -/
def meets (x : S26) (low high : ByteArray) : Bool := (high.toList == [] || Op.bytesLess x.f0.toList high.toList) && (if x.f2 = 3 then Op.bytesLess low.toList x.f4.toList else !Op.bytesLess x.f0.toList low.toList)
theorem meets_ev (x : S26) (low high : ByteArray) : Ev (fun k => spec_l18Meets.f k x.f0 x.f1 x.f2 x.f3 x.f4 low high) (meets x low high) := by
  have j : ∀ b : Bool, Ev (fun k => spec_l18Meets.j0 k low b x.f0 x.f1 x.f2 x.f3 x.f4) (!b && (if x.f2 = 3 then Op.bytesLess low.toList x.f4.toList else !Op.bytesLess x.f0.toList low.toList)) := by
    intro b
    refine Ev.step (f := fun _ => some (!b && (if x.f2 = 3 then Op.bytesLess low.toList x.f4.toList else !Op.bytesLess x.f0.toList low.toList))) (fun k => ?_) (Ev.now _)
    rw [spec_l18Meets.j0]
    cases b with
    | true => rfl
    | false =>
      rw [if_neg (by decide), Bool.not_false, Bool.true_and]
      by_cases c3 : x.f2 = 3
      · rw [if_pos c3, if_pos c3]
      · rw [if_neg c3, if_neg c3]
  unfold spec_l18Meets.f meets
  by_cases h : high.toList = []
  · refine Ev.if_pos h ?_
    have := j false
    simpa [h] using this
  · refine Ev.if_neg h ?_
    have := j (!Op.bytesLess x.f0.toList high.toList)
    rw [Bool.not_not] at this
    rw [beq_eq_false_iff_ne.2 h, Bool.false_or]
    exact this
theorem meets_affIn (x : S26) (low high : ByteArray) (hx : okX x = true) (hb : okB low high = true) : affIn x low high = meets x low high := by
  unfold affIn meets
  by_cases c3 : x.f2 = 3
  · rw [if_pos c3, if_pos c3]
    have hke : Op.bytesLess x.f0.toList x.f4.toList = true := by
      unfold okX okRec at hx
      rw [c3, if_neg (by decide), if_neg (by decide), if_pos rfl] at hx
      simp only [Bool.and_eq_true] at hx
      exact hx.2.2.2.2
    unfold mxS
    unfold okB at hb
    simp only [Bool.and_eq_true, Bool.or_eq_true, beq_iff_eq] at hb
    cases h1 : Op.bytesLess x.f0.toList low.toList with
    | true =>
      rw [if_pos rfl]
      by_cases h2 : high.toList = []
      · simp [h2]
      · rcases hb.2 with h3 | ⟨_, h3⟩
        · exact absurd h3 h2
        · simp [h3, bl_trans _ _ _ h1 h3]
    | false =>
      rw [if_neg (by decide)]
      simp [hke, bl_le_lt _ _ _ h1 hke]
  · rw [if_neg c3, if_neg c3, Bool.and_comm]
theorem scan_loop (l : List S26) (low high : ByteArray) (hl : (l.length : Int) ≤ 1000000000) (d : Nat) : ∀ (i : Nat) (acc : List S26), i ≤ l.length → l.length - i = d → acc.length ≤ i → Ev (fun k => spec_ScanMem.l0 k l low high acc i) (acc ++ (l.drop i).filter (fun x => meets x low high), 0) := by
  induction d with
  | zero =>
    intro i acc h1 h2 h3
    rw [List.drop_of_length_le (by omega), List.filter_nil, List.append_nil]
    refine Ev.step (f := fun _ => some (acc, 0)) (fun k => ?_) (Ev.now _)
    rw [spec_ScanMem.l0, if_neg (by omega)]
  | succ d ih =>
    intro i acc h1 h2 h3
    have hi : i < l.length := by omega
    rw [List.drop_eq_getElem_cons hi, List.filter_cons, ← rdI_get l i hi]
    have ihh := ih (i + 1) (acc ++ [rd_T26 l (i : Int)]) (by omega) (by omega) (by simp; omega)
    have ihn := ih (i + 1) acc (by omega) (by omega) (by omega)
    rw [List.append_assoc, List.singleton_append] at ihh
    have b1 : (i : Int) < (l.length : Int) := by omega
    have b2 : (0 : Int) ≤ (i : Int) := by omega
    have b3 : acc.length < 2199023255552 := by omega
    have ei : wrap64 ((i : Int) + 1) = ((i + 1 : Nat) : Int) := by unfold wrap64; omega
    have hm := meets_ev (rd_T26 l (i : Int)) low high
    refine Ev.step (f := fun k => (spec_l18Meets.f k (rd_T26 l (i : Int)).f0 (rd_T26 l (i : Int)).f1 (rd_T26 l (i : Int)).f2 (rd_T26 l (i : Int)).f3 (rd_T26 l (i : Int)).f4 low high).bind fun t => if t = true then spec_ScanMem.l0 k l low high (acc ++ [rd_T26 l (i : Int)]) ((i + 1 : Nat) : Int) else spec_ScanMem.l0 k l low high acc ((i + 1 : Nat) : Int)) (fun k => ?_) (Ev.bind hm ?_)
    · rw [spec_ScanMem.l0, if_pos b1, if_pos b2, ei]
      simp only [if_pos b3]
    · cases hc : meets (rd_T26 l (i : Int)) low high with
      | true => exact Ev.if_pos rfl ihh
      | false => exact Ev.if_neg (by decide) ihn
theorem FnExactScanMem : laws_FnExactScanMem.Pure := by
  intro l low high hg _ _
  obtain ⟨hl, hb, he⟩ : l.length ≤ maxLen ∧ l.length * 64 ≤ 140737488351232 ∧ ∀ y ∈ l, _ := hg
  have hs : ∀ x ∈ l, small x := by
    intro x hx
    obtain ⟨g0, _, _, g3, g4⟩ := he x hx
    exact ⟨g0, g3, g4⟩
  have hw : ∀ x ∈ l.map toR, (Lit.int .i64 x.f1).wf = true := by
    intro x hx
    obtain ⟨y, hy, rfl⟩ := List.mem_map.1 hx
    exact (he y hy).2.1
  obtain ⟨r, e, a, b, c⟩ := szRecordS_ev l hs (by omega) 1048576 (by omega) (by omega)
  unfold laws_FnExactScanMem.f
  refine Ev.rounds ?_
  by_cases hk : (low.size : Int) > 1048576
  · exact Ev.if_pos hk (Ev.now _)
  refine Ev.if_neg hk ?_
  by_cases hk2 : (high.size : Int) > 1048576
  · exact Ev.if_pos hk2 (Ev.now _)
  refine Ev.if_neg hk2 ?_
  refine Ev.bind e ?_
  by_cases h : r < 0
  · exact Ev.if_pos h (Ev.now _)
  refine Ev.if_neg h ?_
  have hn := c (by omega)
  have hlen : ((l.map toR).length : Int) ≤ 1000000000 := by rw [List.length_map]; omega
  have p1 := l17Run_ev (l.map toR) hlen
  have p2 := implRun_eq (l.map toR) hlen hw
  have t := toRecordS_ev l (by omega)
  have im : impl_ValidMem.f (l.map toR) = some (decide (((l.map toR).length : Int) ≤ 24) && runFrom (l.map toR) (l.map toR).length 0) := by
    unfold impl_ValidMem.f
    by_cases c24 : ((l.map toR).length : Int) ≤ 24
    · rw [if_pos c24, p2, decide_eq_true c24, Bool.true_and]
      rfl
    · rw [if_neg c24, decide_eq_false c24, Bool.false_and]
  have sm : Ev (fun k => spec_l18Valid.f k (l.map toR)) (decide (((l.map toR).length : Int) ≤ 24) && runFrom (l.map toR) (l.map toR).length 0) := by
    unfold spec_l18Valid.f
    by_cases c24 : ((l.map toR).length : Int) ≤ 24
    · rw [decide_eq_true c24, Bool.true_and]
      exact Ev.if_pos c24 (Ev.bind p1 (Ev.now _))
    · rw [decide_eq_false c24, Bool.false_and]
      exact Ev.if_neg c24 (Ev.now _)
  obtain ⟨g, q1, q2, hgl⟩ : ∃ g : List S26 × Int, Ev (fun k => spec_ScanMem.f k (l.map toR) low high) g ∧ impl_ScanMem.f (l.map toR) low high = some g ∧ (g.1.length : Int) ≤ ((l.map toR).length : Int) := by
    unfold spec_ScanMem.f impl_ScanMem.f
    cases hv : (decide (((l.map toR).length : Int) ≤ 24) && runFrom (l.map toR) (l.map toR).length 0) with
    | true =>
      rw [hv] at im sm
      cases ho : okB low high with
      | true =>
        have hr : runFrom (l.map toR) (l.map toR).length 0 = true := by
          simp only [Bool.and_eq_true] at hv
          exact hv.2
        have s0 := scan_loop (l.map toR) low high hlen (l.map toR).length 0 [] (by omega) (by omega) (by simp)
        rw [List.nil_append, List.drop_zero] at s0
        have hfe : (l.map toR).filter (fun x => !(!affIn x low high)) = (l.map toR).filter (fun x => meets x low high) := by
          apply List.filter_congr
          intro x hx
          obtain ⟨j, hj, rfl⟩ := List.mem_iff_getElem.1 hx
          have hok := run_ok (l.map toR) (l.map toR).length 0 hr j (by omega) (by omega)
          rw [rdI_get _ _ hj] at hok
          rw [Bool.not_not, meets_affIn _ _ _ hok ho]
        refine ⟨((l.map toR).filter (fun x => meets x low high), 0), Ev.bind sm (Ev.if_pos rfl (Ev.bind1 (specB_eq low high) (Ev.if_pos ho s0))), ?_, ?_⟩
        · rw [im, Option.bind_some, if_pos rfl, implB_eq, Option.bind_some, if_pos ho, if_pos (by omega), hfe]
        · have := List.length_filter_le (fun x : S26 => meets x low high) (l.map toR)
          show ((((l.map toR).filter (fun x => meets x low high)).length : Nat) : Int) ≤ _
          omega
      | false =>
        have ho' : ¬ okB low high = true := by rw [ho]; decide
        refine ⟨([], 2), Ev.bind sm (Ev.if_pos rfl (Ev.bind1 (specB_eq low high) (Ev.if_neg ho' (Ev.now _)))), ?_, ?_⟩
        · rw [im, Option.bind_some, if_pos rfl, implB_eq, Option.bind_some, if_neg ho']
        · simp
    | false =>
      rw [hv] at im sm
      refine ⟨([], 1), Ev.bind sm (Ev.if_neg (by decide) (Ev.now _)), ?_, ?_⟩
      · rw [im, Option.bind_some, if_neg (by decide)]
      · simp
  have hg1 : (g.1.length : Int) ≤ 1000000000 := by omega
  have n1 : (1 : Int) + 5 * (((l.map toR).length : Nat) : Int) ≤ 9223372036854775800 := by omega
  have n2 : (1 : Int) + 5 * ((g.1.length : Nat) : Int) ≤ 9223372036854775800 := by omega
  have mx := markRecordS_ev (l.map toR) 1 (by omega) n1
  have mg := markRecordS_ev g.1 1 (by omega) n2
  have hd := heldRecordS_ev g.1.length 1 (by omega) n2
  have eg := eqRecordS_self g.1 (by omega)
  have ex := eqRecordS_self (l.map toR) (by omega)
  have q0 : ¬ ((1 : Int) + 5 * (((l.map toR).length : Nat) : Int) < 0) := by omega
  have q3 : ¬ ((1 : Int) + 5 * ((g.1.length : Nat) : Int) < 0) := by omega
  have jj2 : Ev (fun k => laws_FnExactScanMem.j2 k (markedR 1 g.1.length) (1 + 5 * (g.1.length : Int)) (g.2 != g.2)) true := by
    refine Ev.step (f := fun k => (laws_heldRecordS.f k (markedR 1 g.1.length) 1).bind fun t => if t < 0 then some false else if t = 1 + 5 * (g.1.length : Int) then some true else some false) (fun k => ?_) (Ev.bind hd (Ev.if_neg q3 (Ev.if_pos rfl (Ev.now _))))
    rw [laws_FnExactScanMem.j2, if_neg (by simp)]
  have jj1 : Ev (fun k => laws_FnExactScanMem.j1 k l low high g.1 g.2 g.1 (g.2 != g.2)) true := by
    refine Ev.step (f := fun k => (laws_markRecordS.f k g.1 1).bind fun bt => (laws_heldRecordS.f k bt.2 1).bind fun t => if t < 0 then some false else if t = bt.1 then ((laws_toRecordS.f k l).bind fun t2 => (impl_ScanMem.f t2 low high).bind fun b2 => (laws_eqRecordS.f k b2.1 g.1).bind fun t3 => if t3 = true then laws_FnExactScanMem.j2 k bt.2 bt.1 (b2.2 != g.2) else laws_FnExactScanMem.j2 k bt.2 bt.1 true) else some false) (fun k => ?_) (Ev.bind mg (Ev.bind hd (Ev.if_neg q3 (Ev.if_pos rfl (Ev.bind t (Ev.bind1 q2 (Ev.bind eg (Ev.if_pos rfl jj2))))))))
    rw [laws_FnExactScanMem.j1, if_neg (by simp)]
  refine Ev.bind t (Ev.bind q1 (Ev.bind t (Ev.bind1 q2 (Ev.bind eg (Ev.if_pos rfl ?_)))))
  refine Ev.step (f := fun k => (laws_toRecordS.f k l).bind fun t1 => (laws_eqRecordS.f k (l.map toR) t1).bind fun t2 => if t2 = true then ((laws_markRecordS.f k (l.map toR) 1).bind fun bt => if bt.1 < 0 then laws_FnExactScanMem.j1 k l low high g.1 g.2 g.1 true else (laws_eqRecordS.f k g.1 g.1).bind fun t3 => if t3 = true then laws_FnExactScanMem.j1 k l low high g.1 g.2 g.1 (g.2 != g.2) else laws_FnExactScanMem.j1 k l low high g.1 g.2 g.1 true) else some false) (fun k => ?_) (Ev.bind t (Ev.bind ex (Ev.if_pos rfl (Ev.bind mx (Ev.if_neg q0 (Ev.bind eg (Ev.if_pos rfl jj1)))))))
  rw [laws_FnExactScanMem.j0, if_neg (by simp)]
end Go.Proofs.Ytolffokfddjceaa.Pure
