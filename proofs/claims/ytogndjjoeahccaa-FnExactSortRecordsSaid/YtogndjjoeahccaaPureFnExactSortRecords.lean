/- The law FnExactSortRecords, as a statement over numbers and lists. No condition. -/
import Derived.Test.YtogndjjoeahccaaSayFnExactSortRecords
import Derived.Test.YtogndjjoeahccaaMarkRec
import Derived.Test.YtogndjjoeahccaaRecS
import Derived.Test.YtogndjjoeahccaaRecOk
import Derived.Test.YtogndjjoeahccaaXSortR
namespace Go.Proofs.Ytogndjjoeahccaa.Pure
open Go.RowKit Go.Sort Go.Proofs.Ytogndjjoeahccaa.Q Go.Proofs.YtogndjjoeahccaaW.PrintWords
set_option linter.unusedVariables false
def insR (x : S49) : List S49 → List S49
  | [] => [x]
  | y :: r => if lessX y x then y :: insR x r else if eqR y x then y :: r else x :: y :: r
theorem insR_len (x : S49) : ∀ l : List S49, (insR x l).length ≤ l.length + 1
  | [] => Nat.le_refl _
  | y :: r => by
    have ih := insR_len x r
    rw [insR]
    by_cases h : lessX y x = true
    · rw [if_pos h]; simp only [List.length_cons]; omega
    · rw [if_neg h]
      by_cases h2 : eqR y x = true
      · rw [if_pos h2]; simp only [List.length_cons]; omega
      · rw [if_neg h2]; simp only [List.length_cons]; omega
theorem insR_mem (x z : S49) : ∀ l : List S49, z ∈ insR x l ↔ z = x ∨ z ∈ l
  | [] => by simp [insR]
  | y :: r => by
    have ih := insR_mem x z r
    rw [insR]
    by_cases h : lessX y x = true
    · rw [if_pos h, List.mem_cons, ih, List.mem_cons]
      constructor
      · rintro (h | h | h)
        · exact .inr (.inl h)
        · exact .inl h
        · exact .inr (.inr h)
      · rintro (h | h | h)
        · exact .inr (.inl h)
        · exact .inl h
        · exact .inr (.inr h)
    · rw [if_neg h]
      by_cases h2 : eqR y x = true
      · rw [if_pos h2, List.mem_cons]
        have e := (eqR_iff _ _).1 h2
        constructor
        · rintro (h | h)
          · exact .inr (.inl h)
          · exact .inr (.inr h)
        · rintro (h | h | h)
          · exact .inl (h.trans e.symm)
          · exact .inl h
          · exact .inr h
      · rw [if_neg h2]
        simp only [List.mem_cons]
theorem insR_sorted (x : S49) : ∀ l : List S49, l.Pairwise (fun a b => lessX a b = true) → (insR x l).Pairwise (fun a b => lessX a b = true)
  | [], _ => by simp [insR]
  | y :: r, hp => by
    have ih := insR_sorted x r (List.pairwise_cons.1 hp).2
    rw [insR]
    by_cases h : lessX y x = true
    · rw [if_pos h, List.pairwise_cons]
      refine ⟨fun z hz => ?_, ih⟩
      rcases (insR_mem x z r).1 hz with rfl | hz
      · exact h
      · exact (List.pairwise_cons.1 hp).1 z hz
    · rw [if_neg h]
      by_cases h2 : eqR y x = true
      · rw [if_pos h2]; exact hp
      · rw [if_neg h2, List.pairwise_cons]
        refine ⟨fun z hz => ?_, hp⟩
        have hxy : lessX x y = true := by
          rcases lessX_tri y x with a | a | a
          · exact absurd a h
          · exact absurd ((eqR_iff _ _).2 a) h2
          · exact a
        rcases List.mem_cons.1 hz with rfl | hz
        · exact hxy
        · exact lessX_trans hxy ((List.pairwise_cons.1 hp).1 z hz)
theorem uniqR : ∀ l m : List S49, l.Pairwise (fun a b => lessX a b = true) → m.Pairwise (fun a b => lessX a b = true) → (∀ x, x ∈ l ↔ x ∈ m) → l = m
  | [], [], _, _, _ => rfl
  | [], y :: m, _, _, h => by have := (h y).2 List.mem_cons_self; cases this
  | x :: l, [], _, _, h => by have := (h x).1 List.mem_cons_self; cases this
  | x :: l, y :: m, hl, hm, h => by
    have a1 := List.pairwise_cons.1 hl
    have a2 := List.pairwise_cons.1 hm
    have e : x = y := by
      rcases List.mem_cons.1 ((h x).1 List.mem_cons_self) with e | e
      · exact e
      · rcases List.mem_cons.1 ((h y).2 List.mem_cons_self) with e2 | e2
        · exact e2.symm
        · have := lessX_trans (a1.1 y e2) (a2.1 x e)
          rw [lessX_irr] at this; cases this
    subst e
    rw [uniqR l m a1.2 a2.2 (fun z => ?_)]
    constructor
    · intro hz
      rcases List.mem_cons.1 ((h z).1 (List.mem_cons_of_mem _ hz)) with rfl | h2
      · have := a1.1 z hz; rw [lessX_irr] at this; cases this
      · exact h2
    · intro hz
      rcases List.mem_cons.1 ((h z).2 (List.mem_cons_of_mem _ hz)) with rfl | h2
      · have := a2.1 z hz; rw [lessX_irr] at this; cases this
      · exact h2
theorem dedR_mem (z : S49) : ∀ l : List S49, z ∈ dedR l ↔ z ∈ l
  | [] => by simp [dedR]
  | [x] => by simp [dedR]
  | x :: y :: r => by
    have ih := dedR_mem z (y :: r)
    rw [dedR_cons]
    by_cases h : eqR y x = true
    · rw [if_pos h, ih]
      have e := (eqR_iff _ _).1 h
      constructor
      · exact fun h => List.mem_cons_of_mem _ h
      · intro h
        rcases List.mem_cons.1 h with h | h
        · exact List.mem_cons.2 (.inl (h.trans e.symm))
        · exact h
    · rw [if_neg h, List.mem_cons, ih, List.mem_cons (b := x)]
theorem dedR_sorted : ∀ l : List S49, l.Pairwise (fun a b => lessX b a = false) → (dedR l).Pairwise (fun a b => lessX a b = true)
  | [], _ => by simp [dedR]
  | [x], _ => by simp [dedR]
  | x :: y :: r, hp => by
    have a1 := List.pairwise_cons.1 hp
    have ih := dedR_sorted (y :: r) a1.2
    rw [dedR_cons]
    by_cases h : eqR y x = true
    · rw [if_pos h]; exact ih
    · rw [if_neg h, List.pairwise_cons]
      refine ⟨fun z hz => ?_, ih⟩
      have hz' := (dedR_mem z (y :: r)).1 hz
      rcases lessX_tri x z with a | a | a
      · exact a
      · exfalso
        subst a
        rcases List.mem_cons.1 hz' with e | e
        · exact h ((eqR_iff _ _).2 e.symm)
        · have b1 := (List.pairwise_cons.1 a1.2).1 x e
          have b2 := a1.1 y List.mem_cons_self
          rcases lessX_tri x y with c | c | c
          · rw [c] at b1; cases b1
          · exact h ((eqR_iff _ _).2 c.symm)
          · rw [c] at b2; cases b2
      · have := a1.1 z hz'
        rw [a] at this; cases this
theorem sortL_sorted (l : List S49) : (sortL l).Pairwise (fun a b => lessX b a = false) := by
  unfold sortL
  have := List.pairwise_mergeSort (le := fun x y => !(ltOf cmpX) y x) (fun a b c h1 h2 => by
    simp only [lt_cmpX, Bool.not_eq_true'] at h1 h2 ⊢
    rw [Bool.eq_false_iff]
    intro h
    rcases lessX_tri a b with x | x | x
    · have := lessX_trans h x; rw [this] at h2; cases h2
    · subst x; rw [h] at h2; cases h2
    · rw [x] at h1; cases h1) (fun a b => by
    simp only [lt_cmpX]
    cases h : lessX b a with
    | false => rfl
    | true =>
      cases h2 : lessX a b with
      | false => rfl
      | true => have := lessX_trans h h2; rw [lessX_irr] at this; cases this) l
  exact this.imp (fun h => by simpa [lt_cmpX] using h)
def stepR (acc : List S49) (x : S49) : List S49 := if okX x = true then insR x acc else acc
theorem fold_sorted : ∀ (l acc : List S49), acc.Pairwise (fun a b => lessX a b = true) → (l.foldl stepR acc).Pairwise (fun a b => lessX a b = true)
  | [], _, h => h
  | x :: l, acc, h => by
    refine fold_sorted l _ ?_
    unfold stepR
    by_cases c : okX x = true
    · rw [if_pos c]; exact insR_sorted x acc h
    · rw [if_neg c]; exact h
theorem fold_mem (z : S49) : ∀ (l acc : List S49), z ∈ l.foldl stepR acc ↔ z ∈ acc ∨ (z ∈ l ∧ okX z = true)
  | [], acc => by simp
  | x :: l, acc => by
    rw [List.foldl_cons, fold_mem z l]
    unfold stepR
    by_cases c : okX x = true
    · rw [if_pos c, insR_mem, List.mem_cons]
      constructor
      · rintro ((rfl | h) | h)
        · exact .inr ⟨.inl rfl, c⟩
        · exact .inl h
        · exact .inr ⟨.inr h.1, h.2⟩
      · rintro (h | ⟨rfl | h, h2⟩)
        · exact .inl (.inr h)
        · exact .inl (.inl rfl)
        · exact .inr ⟨h, h2⟩
    · rw [if_neg c, List.mem_cons]
      constructor
      · rintro (h | h)
        · exact .inl h
        · exact .inr ⟨.inr h.1, h.2⟩
      · rintro (h | ⟨rfl | h, h2⟩)
        · exact .inl h
        · exact absurd h2 c
        · exact .inr ⟨h, h2⟩
theorem fold_sortI (l : List S49) : l.foldl stepR [] = sortI l := by
  refine uniqR _ _ (fold_sorted l [] List.Pairwise.nil) (dedR_sorted _ (sortL_sorted _)) (fun z => ?_)
  rw [fold_mem]
  unfold sortI
  rw [dedR_mem]
  unfold sortL
  rw [List.mem_mergeSort, List.mem_filter]
  simp
theorem into_loop (l : List S49) (x : S49) (hl : (l.length : Int) ≤ 1000000000) (d : Nat) : ∀ i : Nat, i ≤ l.length → l.length - i = d → Ev (fun k => spec_l17Into.l0 k l i x.f0 x.f1 x.f2 x.f3 x.f4) (l.take i ++ insR x (l.drop i)) := by
  induction d with
  | zero =>
    intro i h1 h2
    obtain rfl : i = l.length := by omega
    refine Ev.step (f := fun _ => some (l.take l.length ++ insR x (l.drop l.length))) (fun k => ?_) (Ev.now _)
    rw [spec_l17Into.l0, if_neg (by omega)]
    simp only [Option.bind_some, List.nil_append, List.length_nil, Int.toNat_natCast, List.take_length, List.drop_length, insR]
    rw [if_pos (by omega), if_pos (by omega), if_pos (by omega), if_pos (by omega), List.append_nil, if_pos (by simp; omega)]
  | succ d ih =>
    intro i h1 h2
    have hi : i < l.length := by omega
    have ei : wrap64 ((i : Int) + 1) = ((i + 1 : Nat) : Int) := by unfold wrap64; omega
    have ed : l.drop i = l[i] :: l.drop (i + 1) := List.drop_eq_getElem_cons hi
    have et : l.take (i + 1) = l.take i ++ [l[i]] := List.take_succ_eq_append_getElem hi
    have er := rdI_get l i hi
    have htl : (l.take i).length = i := by rw [List.length_take]; omega
    have hdl : (l.drop i).length = l.length - i := List.length_drop
    have ih1 := ih (i + 1) (by omega) (by omega)
    rw [et, List.append_assoc, List.singleton_append] at ih1
    by_cases c1 : lessX l[i] x = true
    · rw [ed, insR, if_pos c1]
      refine Ev.step (fun k => ?_) ih1
      rw [spec_l17Into.l0, if_pos (by omega), if_pos (by omega), er, l17Less_eq]
      simp only [Option.bind_some]
      change (if lessX l[i] x = true then _ else if eqR l[i] x = true then _ else _) = _
      rw [if_pos c1, ei]
    · by_cases c2 : eqR l[i] x = true
      · refine Ev.step (f := fun _ => some (l.take i ++ insR x (l.drop i))) (fun k => ?_) (Ev.now _)
        rw [spec_l17Into.l0, if_pos (by omega), if_pos (by omega), er, l17Less_eq]
        simp only [Option.bind_some]
        change (if lessX l[i] x = true then _ else if eqR l[i] x = true then _ else _) = _
        rw [if_neg c1, if_pos c2, ed, insR, if_neg c1, if_pos c2, ← ed, List.take_append_drop]
      · refine Ev.step (f := fun _ => some (l.take i ++ insR x (l.drop i))) (fun k => ?_) (Ev.now _)
        rw [spec_l17Into.l0, if_pos (by omega), if_pos (by omega), er, l17Less_eq]
        simp only [Option.bind_some, List.nil_append, List.length_nil, Int.toNat_natCast]
        change (if lessX l[i] x = true then _ else if eqR l[i] x = true then _ else _) = _
        rw [if_neg c1, if_neg c2, if_pos (by omega), if_pos (by omega), if_pos (by omega), if_pos (by rw [List.length_append, htl, hdl]; simp; omega)]
        have e2 : insR x (l.drop i) = x :: l.drop i := by rw [ed, insR, if_neg c1, if_neg c2]
        rw [e2, List.append_assoc]
        rfl
theorem into_ev (l : List S49) (x : S49) (hl : (l.length : Int) ≤ 1000000000) : Ev (fun k => spec_l17Into.f k l x.f0 x.f1 x.f2 x.f3 x.f4) (insR x l) := by
  have := into_loop l x hl l.length 0 (by omega) (by omega)
  rw [List.take_zero, List.nil_append, List.drop_zero] at this
  exact this
theorem sort_loop (l : List S49) (hl : (l.length : Int) ≤ 100000000) (d : Nat) : ∀ (i : Nat) (acc : List S49), i ≤ l.length → l.length - i = d → acc.length ≤ i → Ev (fun k => spec_l17Sort.l0 k l acc i) ((l.drop i).foldl stepR acc) := by
  induction d with
  | zero =>
    intro i acc h1 h2 h3
    rw [List.drop_of_length_le (by omega), List.foldl_nil]
    refine Ev.step (f := fun _ => some acc) (fun k => ?_) (Ev.now _)
    rw [spec_l17Sort.l0, if_neg (by omega)]
  | succ d ih =>
    intro i acc h1 h2 h3
    have hi : i < l.length := by omega
    have ei : wrap64 ((i : Int) + 1) = ((i + 1 : Nat) : Int) := by unfold wrap64; omega
    have er := rdI_get l i hi
    rw [List.drop_eq_getElem_cons hi, List.foldl_cons]
    have hv : Ev (fun k => spec_l17Valid.f k l[i].f0 l[i].f1 l[i].f2 l[i].f3 l[i].f4) (okX l[i]) := l17Valid_ev _ _ _ _ _
    have hstep : ∀ k, spec_l17Sort.l0 (k + 1) l acc i = (spec_l17Valid.f k l[i].f0 l[i].f1 l[i].f2 l[i].f3 l[i].f4).bind fun t => if t = true then ((spec_l17Into.f k acc l[i].f0 l[i].f1 l[i].f2 l[i].f3 l[i].f4).bind fun t2 => spec_l17Sort.l0 k l t2 ((i + 1 : Nat) : Int)) else spec_l17Sort.l0 k l acc ((i + 1 : Nat) : Int) := by
      intro k
      rw [spec_l17Sort.l0, if_pos (by omega), if_pos (by omega), er, ei]
    by_cases c : okX l[i] = true
    · have e : stepR acc l[i] = insR l[i] acc := by unfold stepR; rw [if_pos c]
      rw [e]
      rw [c] at hv
      have := insR_len l[i] acc
      exact Ev.step hstep (Ev.bind hv (Ev.if_pos rfl (Ev.bind (into_ev acc l[i] (by omega)) (ih (i + 1) _ (by omega) (by omega) (by omega)))))
    · have e : stepR acc l[i] = acc := by unfold stepR; rw [if_neg c]
      rw [e]
      rw [Bool.eq_false_iff.2 c] at hv
      exact Ev.step hstep (Ev.bind hv (Ev.if_neg (by decide) (ih (i + 1) _ (by omega) (by omega) (by omega))))
theorem dedR_len : ∀ l : List S49, (dedR l).length ≤ l.length
  | [] => Nat.le_refl _
  | [x] => Nat.le_refl _
  | x :: y :: r => by
    have ih := dedR_len (y :: r)
    rw [dedR_cons]
    by_cases h : eqR y x = true
    · rw [if_pos h]; simp only [List.length_cons] at ih ⊢; omega
    · rw [if_neg h]; simp only [List.length_cons] at ih ⊢; omega
theorem sortI_len (l : List S49) : (sortI l).length ≤ l.length := by
  unfold sortI
  refine Nat.le_trans (dedR_len _) ?_
  unfold sortL
  rw [List.length_mergeSort]
  exact List.length_filter_le _ _
theorem FnExactSortRecords : laws_FnExactSortRecords.Pure := by
  intro l hg
  obtain ⟨hl, hb, he⟩ : l.length ≤ maxLen ∧ l.length * 64 ≤ 140737488351232 ∧ ∀ y ∈ l, _ := hg
  have hs : ∀ x ∈ l, small x := by
    intro x hx
    obtain ⟨g0, _, _, g3, g4⟩ := he x hx
    exact ⟨g0, g3, g4⟩
  obtain ⟨r, e, a, b, c⟩ := szRecordS_ev l hs (by omega) 1048576 (by omega) (by omega)
  unfold laws_FnExactSortRecords.f
  refine Ev.rounds ?_
  refine Ev.bind e ?_
  by_cases h : r < 0
  · exact Ev.if_pos h (Ev.now _)
  refine Ev.if_neg h ?_
  have hn := c (by omega)
  have hlen : ((l.map toR).length : Int) ≤ 100000000 := by rw [List.length_map]; omega
  have t := toRecordS_ev l (by omega)
  have q1 : Ev (fun k => spec_SortRecords.f k (l.map toR)) (sortI (l.map toR)) := by
    rw [← fold_sortI]
    exact Ev.bind (sort_loop (l.map toR) hlen _ 0 [] (by omega) rfl (by simp)) (Ev.now _)
  have q2 : impl_SortRecords.f (l.map toR) = some (sortI (l.map toR)) := by
    unfold impl_SortRecords.f
    rw [if_pos (by omega)]
  have hgl := sortI_len (l.map toR)
  generalize sortI (l.map toR) = g at q1 q2 hgl
  have n1 : (1 : Int) + 5 * (((l.map toR).length : Nat) : Int) ≤ 9223372036854775800 := by omega
  have n2 : (1 : Int) + 5 * ((g.length : Nat) : Int) ≤ 9223372036854775800 := by omega
  have mx := markRecordS_ev (l.map toR) 1 (by omega) n1
  have mg := markRecordS_ev g 1 (by omega) n2
  have hd := heldRecordS_ev g.length 1 (by omega) n2
  have eg := eqRecordS_self g (by omega)
  have ex := eqRecordS_self (l.map toR) (by omega)
  have q0 : ¬ ((1 : Int) + 5 * (((l.map toR).length : Nat) : Int) < 0) := by omega
  have q3 : ¬ ((1 : Int) + 5 * ((g.length : Nat) : Int) < 0) := by omega
  have jj0 : Ev (fun k => laws_FnExactSortRecords.j0 k l g g false) true := by
    refine Ev.step (f := fun k => (laws_markRecordS.f k g 1).bind fun bt => (laws_heldRecordS.f k bt.2 1).bind fun t => if t < 0 then some false else if t = bt.1 then ((laws_toRecordS.f k l).bind fun t2 => (impl_SortRecords.f t2).bind fun t3 => (laws_eqRecordS.f k t3 g).bind fun t4 => if t4 = true then ((laws_heldRecordS.f k bt.2 1).bind fun t5 => if t5 < 0 then some false else if t5 = bt.1 then some true else some false) else some false) else some false) (fun k => ?_) (Ev.bind mg (Ev.bind hd (Ev.if_neg q3 (Ev.if_pos rfl (Ev.bind t (Ev.bind1 q2 (Ev.bind eg (Ev.if_pos rfl (Ev.bind hd (Ev.if_neg q3 (Ev.if_pos rfl (Ev.now _))))))))))))
    rw [laws_FnExactSortRecords.j0, if_neg (by simp)]
  exact Ev.bind t (Ev.bind q1 (Ev.bind t (Ev.bind1 q2 (Ev.bind eg (Ev.if_pos rfl (Ev.bind t (Ev.bind ex (Ev.if_pos rfl (Ev.bind mx (Ev.if_neg q0 (Ev.bind eg jj0)))))))))))
end Go.Proofs.Ytogndjjoeahccaa.Pure
